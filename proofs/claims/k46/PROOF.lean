import PyProof.Rows.All
import Wide.All
import OpenK.AllK
import Wide.FinOn
import HandS.Nested
import HandS.ForMost
import HandS.Wide
import HandS.WideBits
import HandS.TupAny
import HandS.TupMul
import HandS.Flow
import HandS.Exc
import HandS.ExcOwn
import HandS.WordsExc
import HandS.IsInst
import HandS.Defaults
import KE.GoesEnumKw
import KE.KDictZip
import KE.SortKeyHeap
import HandS.SortKw
import HandS.HeadHook4
import HandS.HeadWalk
import HandS.EndTab
import KE.KStateDown
import HandS.Head0
import HandS.Head1
import HandS.Head2
import HandS.HeadEnd
import PySem.Challenge.RW_lightshares_k46_whole_none_made_is_neare
set_option Elab.async false
set_option linter.all false
set_option maxRecDepth 100000
/-! LiCore: a small language over plain values, as predicate transformers. Tuples, lists that nobody changes and instances that nobody changes are plain values; what is changed is a cell of a store. -/
namespace Li
open PySem

/-- a value; adr: a cell of the store (or a def, a class); scr: the law's script -/
inductive Val where
  | non | bl (b : Bool) | int (i : Int) | str (x : Str) | adr (a : Addr) | scr (ns : List Int)
  | tup (vs : List Val) | lst (vs : List Val) | ins (C : Addr) (ns : List Str) (vs : List Val) | dct (ks : List L2.Key) (vs : List Val) | clo (f : Addr) (F : NdefX.NF)
instance : Inhabited Val := ⟨.non⟩
/-- what may change -/
inductive Cell where
  | lst (vs : List Val) | obj (C : Addr) (fs : List (Str × Val)) | dK (kvs : List (L2.Key × Val))
abbrev Sto := Addr → Option Cell
def Sto.set (S : Sto) (a : Addr) (c : Cell) : Sto := fun b => if b = a then some c else S b
def Sto.del (S : Sto) (a : Addr) : Sto := fun b => if b = a then none else S b
theorem Sto.set_same {S : Sto} {a : Addr} {c : Cell} : S.set a c a = some c := if_pos rfl
theorem Sto.set_ne {S : Sto} {a b : Addr} {c : Cell} (h : b ≠ a) : S.set a c b = S b := if_neg h
theorem Sto.del_same {S : Sto} {a : Addr} : S.del a a = none := if_pos rfl
theorem Sto.del_ne {S : Sto} {a b : Addr} (h : b ≠ a) : S.del a b = S b := if_neg h
theorem Sto.set_set {S : Sto} {a : Addr} {c d : Cell} : (S.set a c).set a d = S.set a d := by
  funext b
  unfold Sto.set
  split <;> rfl
theorem Sto.set_del {S : Sto} {a : Addr} {c : Cell} (h : S a = none) : (S.set a c).del a = S := by
  funext b
  by_cases e : b = a
  · rw [e, Sto.del_same, h]
  · rw [Sto.del_ne e, Sto.set_ne e]
theorem Sto.set_back {S : Sto} {a : Addr} {c : Cell} (h : S a = some c) : S.set a c = S := by
  funext b
  by_cases e : b = a
  · rw [e, Sto.set_same, h]
  · rw [Sto.set_ne e]
/-- an exception: its class, its fields -/
structure Exc where
  C : Addr
  fs : List (Str × Val)
abbrev VQ := Val → Sto → Prop
abbrev EQ := Exc → Sto → Prop
/-- what a def does: arguments, store, what is wanted behind it, what is wanted of what it raises -/
structure ISp where
  run : List Val → Sto → VQ → EQ → Prop
  mono : ∀ {vs S Q Q' R R'}, (∀ v S', Q v S' → Q' v S') → (∀ x S', R x S' → R' x S') → run vs S Q R → run vs S Q' R'
/-- by what it is asked, what it wants, what it leaves -/
def mkSp {α : Type} (enc : α → List Val) (pre : α → Sto → Prop) (post : α → Sto → Val → Sto → Prop) : ISp where
  run := fun vs S Q _ => ∃ a, vs = enc a ∧ pre a S ∧ ∀ v S', post a S v S' → Q v S'
  mono := fun hQ _ ⟨a, h1, h2, h3⟩ => ⟨a, h1, h2, fun v S' h => hQ v S' (h3 v S' h)⟩
/-- a pure one: a value, the store as it was -/
def puSp {α : Type} (enc : α → List Val) (pre : α → Prop) (res : α → Val) : ISp where
  run := fun vs S Q _ => ∃ a, vs = enc a ∧ pre a ∧ Q (res a) S
  mono := fun hQ _ ⟨a, h1, h2, h3⟩ => ⟨a, h1, h2, hQ _ _ h3⟩
/-- a name of the module -/
inductive G where
  | none
  | val (v : Val)
  | fn (sp : ISp) (n : Nat) (dfl : List Val)
  /-- a def called with np values and keywords ks, in its parameters' order -/
  | fnk (sp : ISp) (n np : Nat) (ks : List Str)
  /-- a class, made by its __init__; fz: its instances don't change -/
  | cls (C : Addr) (fz : Bool) (sp : ISp) (n : Nat) (dfl : List Val)
/-- a def within the def: which functions it makes, how many arguments, where the names stand that it captures, what it does (arguments, then captured values) -/
structure LF where
  ok : NdefX.NF → Prop
  n : Nat
  cap : List Nat
  sp : ISp
def LF.none : LF := ⟨fun _ => False, 0, [], ⟨fun _ _ _ _ => False, fun _ _ h => h⟩⟩
structure Cxt where
  D : Nat → G
  /-- the class at C lets its instances have a field f -/
  A : Addr → Str → Prop
  er : EQ
  L : Nat → LF := fun _ => LF.none
/-- where nothing may be raised -/
def Cxt.nox (c : Cxt) : Cxt := { c with er := fun _ _ => False }

/-! ### the text -/
inductive Ty where
  | int | bool | str | tup | lst | cls (g : Nat)
inductive Tg where
  | one (i : Nat) | many (ts : List Nat)
/-- built-in functions -/
inductive Bf where
  | len | abs | int | str | repr | tuple | list | sum | min | max | all | any | sorted | isi (t : Ty)
/-- methods of built-in types -/
inductive Bm where
  | append | get
mutual
inductive E where
  | var (i : Nat)
  | lit (v : Val)
  | glob (g : Nat)
  | bin (o : Operator) (a b : E)
  | neg (a : E)
  | cmp (o : CmpOp) (a b : E)
  | chain (o p : CmpOp) (a b c : E)
  | land (a b : E)
  | lor (a b : E)
  | lnot (a : E)
  | ife (c a b : E)
  | tup (es : Es)
  | lst (es : Es)
  | idx (a i : E)
  | slc (a : E) (lo hi : Eo)
  | call (g : Nat) (es : Es) (dn : Nat)
  /-- a call of the local def j, which slot i holds -/
  | calln (j i : Nat) (es : Es)
  | callk (g : Nat) (es : Es) (ks : List Str) (kes : Es)
  | bf (f : Bf) (es : Es)
  | bm (m : Bm) (o : E) (es : Es)
  | attr (o : E) (f : Str)
  | comp (elt : E) (t : Tg) (it : It) (ifs : Eo) (own : List Nat)
  /-- sorted(.., key=len) -/
  | srtLen (e : E)
  /-- dict(zip(a, b, strict=True)) -/
  | dzip (a b : E)
inductive Es where
  | nil
  | cons (e : E) (r : Es)
inductive Eo where
  | no
  | so (e : E)
inductive It where
  | seq (e : E)
  | rng (a b : E)
  | rng1 (b : E)
  | enum (e : E)
  | zip (a b : E)
end
mutual
inductive Sm where
  | set (i : Nat) (e : E)
  /-- a name whose list is changed afterwards -/
  | setc (i : Nat) (e : E)
  /-- def .., kept in slot i -/
  | ndef (i j : Nat)
  | unp (ts : List Nat) (e : E)
  | par (i j : Nat) (ci cj : Bool) (a b : E)
  | aug (i : Nat) (o : Operator) (e : E)
  | sub (a i e : E)
  | asub (a i : E) (o : Operator) (e : E)
  | att (o : E) (f : Str) (e : E)
  | ex (e : E)
  /-- fr: the names whose cells end here -/
  | ret (e : E) (fr : List Nat)
  /-- the list handed back may be changed by whoever asked -/
  | retc (e : E)
  | retn (fr : List Nat)
  | ifs (c : E) (a b : Ss)
  | whl (c : E) (b : Ss)
  | forr (t : Tg) (it : It) (b : Ss)
  | raise (g : Nat) (es : Es)
  | pass | brk | cont
inductive Ss where
  | nil
  | cons (s : Sm) (r : Ss)
end

/-! ### values -/
abbrev Env := List (Option Val)
def optQ {α : Type} : Option α → (α → Prop) → Prop
  | some x, Q => Q x
  | none, _ => False
def brV : Option Bool → Prop → Prop → Prop
  | some true, A, _ => A
  | some false, _, B => B
  | none, _, _ => False
def intQ : Val → (Int → Prop) → Prop
  | .int i, Q => Q i
  | _, _ => False
def adrQ : Val → (Addr → Prop) → Prop
  | .adr a, Q => Q a
  | _, _ => False
def lstQ : Val → (List Val → Prop) → Prop
  | .lst vs, Q => Q vs
  | _, _ => False
def tupQ : Val → (List Val → Prop) → Prop
  | .tup vs, Q => Q vs
  | _, _ => False
def objQ (S : Sto) (a : Addr) (Q : Addr → List (Str × Val) → Prop) : Prop := match S a with
  | some (.obj C fs) => Q C fs
  | _ => False
def celQ (S : Sto) (a : Addr) (Q : List Val → Prop) : Prop := match S a with
  | some (.lst vs) => Q vs
  | _ => False
def slotQ (σ : Env) (i : Nat) (Q : Val → Prop) : Prop := match σ[i]? with
  | some (some v) => Q v
  | _ => False
def cloQ (σ : Env) (i : Nat) (Q : NdefX.NF → Prop) : Prop := match σ[i]? with
  | some (some (.clo _ F)) => Q F
  | _ => False
def capQ (σ : Env) : List Nat → (List Val → Prop) → Prop
  | [], Q => Q []
  | i :: r, Q => slotQ σ i fun v => capQ σ r fun vs => Q (v :: vs)
def gvalQ : G → (Val → Prop) → Prop
  | .val v, Q => Q v
  | _, _ => False
def asL (S : Sto) : Val → Option (List Val)
  | .lst vs => some vs
  | .adr a => match S a with
    | some (.lst vs) => some vs
    | _ => none
  | _ => none
def asInts : List Val → Option (List Int)
  | [] => some []
  | .int i :: r => (asInts r).map (i :: ·)
  | _ :: _ => none
def asBools : List Val → Option (List Bool)
  | [] => some []
  | .bl i :: r => (asBools r).map (i :: ·)
  | _ :: _ => none
def truV (S : Sto) : Val → Option Bool
  | .non => some false
  | .bl b => some b
  | .int i => some (i != 0)
  | .str x => if x.length ≤ sizeLine then some ((x.length : Int) != 0) else none
  | .tup vs => some (!vs.isEmpty)
  | .lst vs => some (!vs.isEmpty)
  | .adr a => match S a with
    | some (.lst vs) => some (!vs.isEmpty)
    | _ => none
  | _ => none
def lenV (S : Sto) : Val → Option Nat
  | .str x => if x.length ≤ sizeLine then some x.length else none
  | .tup vs => some vs.length
  | .scr ns => some ns.length
  | v => (asL S v).map (·.length)
def cut {α : Type} (xs : List α) (lo hi : Option Int) : List α := (xs.drop (HT.sIx xs.length 0 lo)).take (HT.sIx xs.length xs.length hi - HT.sIx xs.length 0 lo)
mutual
/-- data, for == -/
def toPy0 : Val → Option PyData
  | .non => some .none
  | .bl b => some (.bool b)
  | .int i => some (.int i)
  | .str x => some (.str x)
  | .tup vs => (toPys0 vs).map .tuple
  | .lst vs => (toPys0 vs).map .list
  | _ => none
def toPys0 : List Val → Option (List PyData)
  | [] => some []
  | v :: r => match toPy0 v, toPys0 r with
    | some d, some ds => some (d :: ds)
    | _, _ => none
end
def toPy (S : Sto) : Val → Option PyData
  | .adr a => match S a with
    | some (.lst vs) => (toPys0 vs).map .list
    | _ => none
  | v => toPy0 v
def addV (S : Sto) (Q : Val → Prop) : Val → Val → Prop
  | .int i, .int j => Q (.int (i + j))
  | .str a, .str b => a.length + b.length ≤ sizeLine ∧ Q (.str (a ++ b))
  | .tup a, .tup b => a.length + b.length ≤ sizeLine ∧ Q (.tup (a ++ b))
  | x, y => optQ (asL S x) fun a => optQ (asL S y) fun b => a.length + b.length ≤ sizeLine ∧ Q (.lst (a ++ b))
def int2 (C : Int → Int → Prop) (g : Int → Int → Int) (Q : Val → Prop) : Val → Val → Prop
  | .int i, .int j => C i j ∧ Q (.int (g i j))
  | _, _ => False
def mulV (S : Sto) (Q : Val → Prop) : Val → Val → Prop
  | .int i, .int j => L2.CMulX i j ∧ Q (.int (i * j))
  | .tup vs, .int k => (vs ≠ [] ∧ 2 ≤ k ∧ k ≤ 1000 ∧ vs.length ≤ 1000) ∧ Q (.tup (List.replicate k.toNat vs).flatten)
  | _, _ => False
def binV (S : Sto) (o : Operator) (x y : Val) (Q : Val → Prop) : Prop :=
  match o with
  | .Add => addV S Q x y
  | .Sub => int2 (fun _ _ => True) (fun i j => i - j) Q x y
  | .Mult => mulV S Q x y
  | .FloorDiv => int2 L2.CDivW (fun i j => i / j) Q x y
  | .Mod => int2 (fun _ j => 0 < j) (fun i j => i % j) Q x y
  | .Pow => int2 L2.CPow (fun i j => i ^ j.toNat) Q x y
  | .LShift => int2 L2.CPow (fun i j => i * 2 ^ j.toNat) Q x y
  | .RShift => int2 (fun _ j => 0 ≤ j) (fun i j => i / 2 ^ j.toNat) Q x y
  | .BitAnd => int2 (fun _ _ => True) (fun i j => Builtin.bitAnd i j) Q x y
  | _ => False
/-- x op= y of ints and texts -/
def augV (o : Operator) (x y : Val) (Q : Val → Prop) : Prop :=
  match o with
  | .Add => int2 (fun _ _ => True) (fun i j => i + j) Q x y
  | .Sub => int2 (fun _ _ => True) (fun i j => i - j) Q x y
  | .Mult => int2 L2.CMulX (fun i j => i * j) Q x y
  | _ => False
def cmpI (f : Int → Int → Bool) (Q : Bool → Prop) : Val → Val → Prop
  | .int i, .int j => Q (f i j)
  | _, _ => False
def eqV (S : Sto) (f : Bool → Bool) (x y : Val) (Q : Bool → Prop) : Prop := optQ (toPy S x) fun d => optQ (toPy S y) fun e => SeqAt.shaped d = true ∧ SeqAt.shaped e = true ∧ Q (f (PyData.eqv d e))
def isNon : Val → Bool
  | .non => true
  | _ => false
def cmpV (S : Sto) (o : CmpOp) (x y : Val) (Q : Bool → Prop) : Prop :=
  match o with
  | .Lt => cmpI (fun i j => decide (i < j)) Q x y
  | .LtE => cmpI (fun i j => decide (i ≤ j)) Q x y
  | .Gt => cmpI (fun i j => decide (j < i)) Q x y
  | .GtE => cmpI (fun i j => decide (j ≤ i)) Q x y
  | .Eq => eqV S id x y Q
  | .NotEq => eqV S not x y Q
  | .Is => isNon y = true ∧ Q (isNon x)
  | .IsNot => isNon y = true ∧ Q (!isNon x)
  | _ => False
def idxV (S : Sto) (x y : Val) (Q : Val → Prop) : Prop :=
  intQ y fun i => match x with
    | .tup vs => optQ (L2.atI vs i) Q
    | .scr ns => optQ (L2.atI (ns.map Val.int) i) Q
    | x => optQ (asL S x) fun vs => optQ (L2.atI vs i) Q
def slcV (S : Sto) (x : Val) (lo hi : Option Int) (Q : Val → Prop) : Prop :=
  match x with
  | .tup vs => Q (.tup (cut vs lo hi))
  | .scr ns => Q (.lst (cut (ns.map Val.int) lo hi))
  | x => optQ (asL S x) fun vs => Q (.lst (cut vs lo hi))
def fldV (A : Addr → Str → Prop) (S : Sto) (f : Str) (Q : Val → Prop) : Val → Prop
  | .ins C ns vs => A C f ∧ optQ ((ns.zip vs).lookup f) Q
  | .adr a => objQ S a fun C fs => A C f ∧ optQ (fs.lookup f) Q
  | _ => False
/-- a field stored -/
def putV (f : Str) (v : Val) : List (Str × Val) → List (Str × Val)
  | [] => [(f, v)]
  | (g, u) :: r => if g = f then (g, v) :: r else (g, u) :: putV f v r
def clsA : G → Option Addr
  | .cls C _ _ _ _ => some C
  | _ => none
def insA (S : Sto) : Val → Option Addr
  | .ins C _ _ => some C
  | .adr a => match S a with
    | some (.obj C _) => some C
    | _ => none
  | _ => none
def isiC (g : G) (S : Sto) (v : Val) : Option Bool := (clsA g).bind fun C => (insA S v).bind fun C' => if C' = C then some true else none
def isiT : Ty → Val → Option Bool
  | .int, .int _ => some true
  | .int, .bl _ => some true
  | .int, .tup _ => some false
  | .int, .lst _ => some false
  | .int, .str _ => some false
  | .int, .non => some false
  | .bool, .bl _ => some true
  | .bool, .int _ => some false
  | .tup, .tup _ => some true
  | .tup, .int _ => some false
  | .tup, .non => some false
  | .str, .str _ => some true
  | _, _ => none
def isiV (D : Nat → G) (S : Sto) (t : Ty) (v : Val) : Option Bool := match t with
  | .cls g => isiC (D g) S v
  | t => isiT t v
def bfV (D : Nat → G) (f : Bf) (vs : List Val) (S : Sto) (Q : Val → Prop) : Prop :=
  match f, vs with
  | .len, [x] => optQ (lenV S x) fun n => Q (.int n)
  | .abs, [x] => intQ x fun i => Q (.int (if i < 0 then -i else i))
  | .int, [.int i] => Q (.int i)
  | .int, [.bl b] => Q (.int (if b = true then 1 else 0))
  | .tuple, [.tup us] => Q (.tup us)
  | .tuple, [x] => optQ (asL S x) fun us => Q (.tup us)
  | .list, [.tup us] => Q (.lst us)
  | .list, [.scr ns] => Q (.lst (ns.map Val.int))
  | .list, [x] => optQ (asL S x) fun us => Q (.lst us)
  | .sum, [x] => optQ ((asL S x).bind asInts) fun ns => Q (.int ns.sum)
  | .min, [x, y] => intQ x fun i => intQ y fun j => Q (.int (if j < i then j else i))
  | .max, [x, y] => intQ x fun i => intQ y fun j => Q (.int (if i < j then j else i))
  | .min, [x] => optQ ((asL S x).bind asInts) fun ns => 0 < ns.length ∧ ∀ m, m ∈ ns → (∀ y ∈ ns, m ≤ y) → Q (.int m)
  | .all, [x] => optQ ((asL S x).bind asBools) fun bs => Q (.bl (bs.all id))
  | .any, [x] => optQ ((asL S x).bind asBools) fun bs => Q (.bl (bs.any id))
  | .isi t, [x] => optQ (isiV D S t x) fun b => Q (.bl b)
  | _, _ => False
def wipe (σ : Env) : List Nat → Env
  | [] => σ
  | v :: vs => (wipe σ vs).set v none
def asgs : List Nat → List Val → Env → (Env → Prop) → Prop
  | [], [], σ, k => k σ
  | i :: is, v :: vs, σ, k => asgs is vs (σ.set i (some v)) k
  | _, _, _, _ => False
def asg (t : Tg) (v : Val) (σ : Env) (k : Env → Prop) : Prop :=
  match t with
  | .one i => k (σ.set i (some v))
  | .many ts => tupQ v fun vs => asgs ts vs σ k
def enumV : Nat → List Val → List Val
  | _, [] => []
  | i, v :: r => .tup [.int i, v] :: enumV (i + 1) r
def rngV (lo : Int) : Nat → List Val
  | 0 => []
  | n + 1 => .int lo :: rngV (lo + 1) n
def callG (g : G) (vs : List Val) (dn : Nat) (S : Sto) (Q : VQ) (er : EQ) : Prop :=
  match g with
  | .fn sp n dfl => (vs ++ dfl.drop (dfl.length - dn)).length = n ∧ sp.run (vs ++ dfl.drop (dfl.length - dn)) S Q er
  | .cls C fz sp n dfl => (vs ++ dfl.drop (dfl.length - dn)).length + 1 = n ∧ ∀ x, S x = none → sp.run (.adr x :: (vs ++ dfl.drop (dfl.length - dn))) (S.set x (.obj C [])) (fun v S' => v = .non ∧ ∃ fs, S' x = some (.obj C fs) ∧ (if fz = true then Q (.ins C (fs.map (·.1)) (fs.map (·.2))) (S'.del x) else Q (.adr x) S')) er
  | _ => False
def callK (g : G) (vs ws : List Val) (S : Sto) (Q : VQ) (er : EQ) : Prop :=
  match g with
  | .fnk sp n np ks => vs.length = np ∧ ws.length = ks.length ∧ (vs ++ ws).length = n ∧ sp.run (vs ++ ws) S Q er
  | _ => False
def isCalk : G → List Str → Prop
  | .fnk _ _ _ ks, ks' => ks' = ks
  | _, _ => False
/-- what can be called -/
def isCal : G → Prop
  | .fn _ _ _ => True
  | .cls _ _ _ _ _ => True
  | _ => False
/-- the turns of a comprehension -/
def compL (step : Val → Sto → (Option Val → Sto → Prop) → Prop) (chk : Sto → Prop) : List Val → List Val → Sto → (List Val → Sto → Prop) → Prop
  | [], acc, S, Q => chk S ∧ Q acc S
  | v :: r, acc, S, Q => chk S ∧ step v S fun o S' => match o with
    | some y => acc.length < sizeLine ∧ compL step chk r (acc ++ [y]) S' Q
    | none => compL step chk r acc S' Q
def tst (Q : Bool → Sto → Prop) : VQ := fun v S => optQ (truV S v) fun b => Q b S
/-- two rows alike long, as pairs -/
def zipV : List Val → List Val → List Val
  | a :: as, b :: bs => .tup [a, b] :: zipV as bs
  | _, _ => []
def seqV (S : Sto) : Val → Option (List Val)
  | .tup vs => some vs
  | .scr ns => some (ns.map Val.int)
  | v => asL S v
/-- while a cell is walked it stays -/
def chkV (S : Sto) : Val → Sto → Prop
  | .adr a => fun S' => S' a = S a
  | _ => fun _ => True
/-- sorted(.., key=len) -/
def lensV : List Val → Option (List Nat)
  | [] => some []
  | .lst us :: r => (lensV r).map (us.length :: ·)
  | _ :: _ => none
def srtV (vs : List Val) (ls : List Nat) : List Val := ((vs.zip ls).mergeSort fun a b => decide (a.2 ≤ b.2)).map (·.1)
def getV : List L2.Key → List Val → L2.Key → Option Val
  | k :: ks, v :: vs, q => if k = q then some v else getV ks vs q
  | _, _, _ => none
def dctQ : Val → (List L2.Key → List Val → Prop) → Prop
  | .dct ks vs, Q => Q ks vs
  | _, _ => False
def bmV (m : Bm) (x : Val) (vs : List Val) (S : Sto) (Q : VQ) : Prop :=
  match m, vs with
  | .append, [v] => adrQ x fun a => celQ S a fun us => us.length < sizeLine ∧ Q .non (S.set a (.lst (us ++ [v])))
  | .get, [k, d] => intQ k fun i => dctQ x fun ks us => Q ((getV ks us (.inl i)).getD d) S
  | _, _ => False
/-- a method's receiver, ahead of its arguments -/
def bmP (m : Bm) (x : Val) (S : Sto) : Prop := match m with
  | .append => adrQ x fun a => celQ S a fun _ => True
  | .get => dctQ x fun _ _ => True
mutual
def evE : Cxt → E → Env → Sto → VQ → Prop
  | c, .var i, σ, S, Q => slotQ σ i fun v => Q v S
  | c, .lit v, _, S, Q => Q v S
  | c, .glob g, _, S, Q => gvalQ (c.D g) fun v => Q v S
  | c, .bin o a b, σ, S, Q => evE c a σ S fun x S1 => evE c b σ S1 fun y S2 => binV S2 o x y fun v => Q v S2
  | c, .neg a, σ, S, Q => evE c a σ S fun x S1 => intQ x fun i => Q (.int (-i)) S1
  | c, .cmp o a b, σ, S, Q => evE c a σ S fun x S1 => evE c b σ S1 fun y S2 => cmpV S2 o x y fun k => Q (.bl k) S2
  | c, .chain o p a b d, σ, S, Q => evE c a σ S fun x S1 => evE c b σ S1 fun y S2 => cmpV S2 o x y fun k => brV (some k) (evE c d σ S2 (fun z S3 => cmpV S3 p y z fun k2 => Q (.bl k2) S3)) (Q (.bl false) S2)
  | c, .land a b, σ, S, Q => evE c a σ S fun x S1 => brV (truV S1 x) (evE c b σ S1 Q) (Q x S1)
  | c, .lor a b, σ, S, Q => evE c a σ S fun x S1 => brV (truV S1 x) (Q x S1) (evE c b σ S1 Q)
  | c, .lnot a, σ, S, Q => evE c a σ S fun x S1 => optQ (truV S1 x) fun b => Q (.bl (!b)) S1
  | c, .ife t a b, σ, S, Q => evE c t σ S fun x S1 => brV (truV S1 x) (evE c a σ S1 Q) (evE c b σ S1 Q)
  | c, .tup es, σ, S, Q => evEs c es σ S fun vs S1 => vs.length ≤ sizeLine ∧ Q (.tup vs) S1
  | c, .lst es, σ, S, Q => evEs c es σ S fun vs S1 => vs.length ≤ sizeLine ∧ Q (.lst vs) S1
  | c, .idx a i, σ, S, Q => evE c a σ S fun x S1 => evE c i σ S1 fun y S2 => idxV S2 x y fun v => Q v S2
  | c, .slc a lo hi, σ, S, Q => evE c a σ S fun x S1 => evI c lo σ S1 fun l S2 => evI c hi σ S2 fun h S3 => slcV S3 x l h fun v => Q v S3
  | c, .call g es dn, σ, S, Q => isCal (c.D g) ∧ evEs c es σ S fun vs S1 => callG (c.D g) vs dn S1 Q c.er
  | c, .calln j i es, σ, S, Q => cloQ σ i (c.L j).ok ∧ evEs c es σ S fun vs S1 => vs.length = (c.L j).n ∧ capQ σ (c.L j).cap fun cs => (c.L j).sp.run (vs ++ cs) S1 Q c.er
  | c, .callk g es ks kes, σ, S, Q => isCalk (c.D g) ks ∧ evEs c es σ S fun vs S1 => evEs c kes σ S1 fun ws S2 => callK (c.D g) vs ws S2 Q c.er
  | c, .bf f es, σ, S, Q => evEs c es σ S fun vs S1 => bfV c.D f vs S1 fun v => Q v S1
  | c, .bm m o es, σ, S, Q => evE c o σ S fun x S1 => bmP m x S1 ∧ evEs c es σ S1 fun vs S2 => bmV m x vs S2 Q
  | c, .attr o f, σ, S, Q => evE c o σ S fun x S1 => fldV c.A S1 f (fun v => Q v S1) x
  | c, .comp elt t it ifs own, σ, S, Q => evIt c it σ S fun items chk S1 =>
      compL (fun v S2 k => asg t v (wipe σ own) fun σ2 => evO c.nox ifs σ2 S2 fun b S3 => brV (some b) (evE c.nox elt σ2 S3 (fun y S4 => k (some y) S4)) (k none S3)) chk items [] S1 fun vs S5 => Q (.lst vs) S5
  | c, .srtLen e, σ, S, Q => evE c e σ S fun x S1 => optQ (asL S1 x) fun vs => optQ (lensV vs) fun ls => Q (.lst (srtV vs ls)) S1
  | c, .dzip a b, σ, S, Q => evE c a σ S fun x S1 => evE c b σ S1 fun y S2 => optQ (seqV S2 x) fun xs => optQ (seqV S2 y) fun ys => optQ (asInts xs) fun is => xs.length = ys.length ∧ is.Nodup ∧ Q (.dct (is.map Sum.inl) ys) S2
def evEs : Cxt → Es → Env → Sto → (List Val → Sto → Prop) → Prop
  | c, .nil, _, S, Q => Q [] S
  | c, .cons e r, σ, S, Q => evE c e σ S fun v S1 => evEs c r σ S1 fun vs S2 => Q (v :: vs) S2
/-- a part of a slice -/
def evI : Cxt → Eo → Env → Sto → (Option Int → Sto → Prop) → Prop
  | c, .no, _, S, Q => Q none S
  | c, .so e, σ, S, Q => evE c e σ S fun v S1 => intQ v fun i => Q (some i) S1
/-- an if of a comprehension -/
def evO : Cxt → Eo → Env → Sto → (Bool → Sto → Prop) → Prop
  | c, .no, _, S, Q => Q true S
  | c, .so e, σ, S, Q => evE c e σ S (tst Q)
def evIt : Cxt → It → Env → Sto → (List Val → (Sto → Prop) → Sto → Prop) → Prop
  | c, .seq e, σ, S, Q => evE c e σ S fun v S1 => optQ (seqV S1 v) fun vs => Q vs (chkV S1 v) S1
  | c, .rng a b, σ, S, Q => evE c a σ S fun x S1 => evE c b σ S1 fun y S2 => intQ x fun i => intQ y fun j => (-(2 ^ 62) ≤ i ∧ i < 2 ^ 62 ∧ -(2 ^ 62) ≤ j ∧ j < 2 ^ 62) ∧ Q (rngV i (j - i).toNat) (fun _ => True) S2
  | c, .rng1 b, σ, S, Q => evE c b σ S fun y S2 => intQ y fun j => (-(2 ^ 62) ≤ j ∧ j < 2 ^ 62) ∧ Q (rngV 0 j.toNat) (fun _ => True) S2
  | c, .enum e, σ, S, Q => evE c e σ S fun v S1 => optQ (seqV S1 v) fun vs => Q (enumV 0 vs) (chkV S1 v) S1
  | c, .zip a b, σ, S, Q => evE c a σ S fun x S1 => evE c b σ S1 fun y S2 => optQ (seqV S2 x) fun xs => optQ (seqV S2 y) fun ys => xs.length = ys.length ∧ Q (zipV xs ys) (fun S => chkV S2 x S ∧ chkV S2 y S) S2
end

/-! ### statements -/
structure DE where
  nx : Env → Sto → Prop
  rt : VQ
  bk : Env → Sto → Prop := fun _ _ => False
  ct : Env → Sto → Prop := fun _ _ => False
def forL (step : Val → DE → Env → Sto → Prop) (chk : Sto → Prop) : List Val → DE → Env → Sto → Prop
  | [], D, σ, S => chk S ∧ D.nx σ S
  | v :: r, D, σ, S => chk S ∧ step v { D with nx := forL step chk r D, ct := forL step chk r D, bk := D.nx } σ S
def whlN (t : Env → Sto → (Bool → Sto → Prop) → Prop) (body : DE → Env → Sto → Prop) : Nat → DE → Env → Sto → Prop
  | 0, _, _, _ => False
  | n + 1, D, σ, S => t σ S fun b S' => brV (some b) (body { D with nx := whlN t body n D, ct := whlN t body n D, bk := D.nx } σ S') (D.nx σ S')
/-- the cell of a name ends -/
def dropC (σ : Env) (S : Sto) (i : Nat) : Sto := match σ[i]? with
  | some (some (.adr a)) => (match S a with
    | some (.lst _) => S.del a
    | _ => S)
  | _ => S
def setC (i : Nat) (v : Val) (σ : Env) (S : Sto) (k : Env → Sto → Prop) : Prop := lstQ v fun vs => ∀ a, S a = none → k (σ.set i (some (.adr a))) ((dropC σ S i).set a (.lst vs))
def setB (cl : Bool) (i : Nat) (v : Val) (σ : Env) (S : Sto) (k : Env → Sto → Prop) : Prop := match cl with
  | true => setC i v σ S k
  | false => k (σ.set i (some v)) S
mutual
def sbst (a : Addr) (w : Val) : Val → Val
  | .adr b => if b = a then w else .adr b
  | .tup vs => .tup (sbsts a w vs)
  | .lst vs => .lst (sbsts a w vs)
  | v => v
def sbsts (a : Addr) (w : Val) : List Val → List Val
  | [] => []
  | v :: r => sbst a w v :: sbsts a w r
end
/-- the cell of a name, if it is one that lists -/
def cellOf (σ : Env) (S : Sto) (i : Nat) : Option (Addr × List Val) := match σ[i]? with
  | some (some (.adr a)) => (match S a with
    | some (.lst vs) => some (a, vs)
    | _ => none)
  | _ => none
def frz1 (o : Option (Addr × List Val)) (v : Val) (S : Sto) : Val × Sto := match o with
  | some (a, vs) => (sbst a (.lst vs) v, S.del a)
  | none => (v, S)
/-- cells end, what is handed back is a plain value -/
def frz (σ : Env) : List Nat → Val → Sto → VQ → Prop
  | [], v, S, Q => Q v S
  | i :: r, v, S, Q => frz σ r (frz1 (cellOf σ S i) v S).1 (frz1 (cellOf σ S i) v S).2 Q
mutual
def evS (c : Cxt) : Sm → DE → Env → Sto → Prop
  | .set i e, D, σ, S => evE c e σ S fun v S1 => D.nx (σ.set i (some v)) S1
  | .setc i e, D, σ, S => evE c e σ S fun v S1 => setC i v σ S1 D.nx
  | .ndef i j, D, σ, S => ∀ f F, (c.L j).ok F → S f = none → D.nx (σ.set i (some (.clo f F))) S
  | .unp ts e, D, σ, S => evE c e σ S fun v S1 => asg (.many ts) v σ fun σ2 => D.nx σ2 S1
  | .par i j ci cj a b, D, σ, S => evE c a σ S fun x S1 => evE c b σ S1 fun y S2 => setB ci i x σ S2 fun σ2 S3 => setB cj j y σ2 S3 D.nx
  | .aug i o e, D, σ, S => slotQ σ i fun x => evE c e σ S fun y S1 => augV o x y fun v => D.nx (σ.set i (some v)) S1
  | .sub a i e, D, σ, S => evE c e σ S fun v S1 => evE c a σ S1 fun x S2 => evE c i σ S2 fun y S3 => adrQ x fun p => intQ y fun k => celQ S3 p fun vs => optQ (L2.ixN vs.length k) fun j => D.nx σ (S3.set p (.lst (vs.set j v)))
  | .asub a i o e, D, σ, S => evE c a σ S fun x S1 => evE c i σ S1 fun y S2 => adrQ x fun p => intQ y fun k => celQ S2 p fun vs => optQ (L2.ixN vs.length k) fun j => optQ (vs[j]?) fun old => evE c e σ S2 fun u S3 => augV o old u fun v => celQ S3 p fun vs3 => vs3.length = vs.length ∧ D.nx σ (S3.set p (.lst (vs3.set j v)))
  | .att o f e, D, σ, S => evE c e σ S fun v S1 => evE c o σ S1 fun x S2 => adrQ x fun p => objQ S2 p fun C fs => c.A C f ∧ fs.length < 1000 ∧ D.nx σ (S2.set p (.obj C (putV f v fs)))
  | .ex e, D, σ, S => evE c e σ S fun _ S1 => D.nx σ S1
  | .ret e fr, D, σ, S => evE c e σ S fun v S1 => frz σ fr v S1 D.rt
  | .retc e, D, σ, S => evE c e σ S fun v S1 => lstQ v fun vs => ∀ a, S1 a = none → D.rt (.adr a) (S1.set a (.lst vs))
  | .retn fr, D, σ, S => frz σ fr .non S D.rt
  | .ifs t a b, D, σ, S => evE c t σ S (tst fun k S1 => brV (some k) (evSs c a D σ S1) (evSs c b D σ S1))
  | .whl t b, D, σ, S => ∃ n, whlN (fun σ S Q => evE c t σ S (tst Q)) (evSs c b) n D σ S
  | .forr t it b, D, σ, S => evIt c it σ S fun items chk S1 => forL (fun v D' σ' S' => asg t v σ' fun σ2 => evSs c b D' σ2 S') chk items D σ S1
  | .raise g es, D, σ, S => False
  | .pass, D, σ, S => D.nx σ S
  | .brk, D, σ, S => D.bk σ S
  | .cont, D, σ, S => D.ct σ S
def evSs (c : Cxt) : Ss → DE → Env → Sto → Prop
  | .nil, D, σ, S => D.nx σ S
  | .cons s r, D, σ, S => evS c s { D with nx := evSs c r D } σ S
end
/-- a def's body, from its arguments -/
def evD (c : Cxt) (b : Ss) (N : Nat) (fr : List Nat) (vs : List Val) (S : Sto) (Q : VQ) : Prop :=
  evSs c b { nx := fun σ S' => frz σ fr .non S' Q, rt := Q } (vs.map some ++ List.replicate (N - vs.length) none) S
end Li
set_option Elab.async false
set_option linter.all false
set_option maxRecDepth 100000
set_option maxHeartbeats 0
namespace L46
open PySem Li
def N_law : List Str := [("_law_script" : Str), ("_law_k" : Str), ("_law_purse_here" : Str), ("_law_many" : Str), ("_law_gaze" : Str), ("_law_rows" : Str)]
def p_law : List Str := [("_law_script" : Str)]
def b_law : Ss := (.cons (.forr (.one 1) (.rng1 (.bf .max (.cons (.lit (.int 2)) (.cons (.bf .min (.cons (.lit (.int 3)) (.cons (.bf .len (.cons (.var 0) .nil)) .nil))) .nil)))) (.cons (.set 2 (.call 301 (.cons (.call 300 (.cons (.var 0) (.cons (.var 1) .nil)) 0) .nil) 0))
  (.cons (.set 3 (.bin .Add (.lit (.int 1)) (.call 302 (.cons (.var 2) (.cons (.idx (.lst (.cons (.lit (.int 5)) (.cons (.lit (.int 3)) .nil))) (.bf .int (.cons (.cmp .Gt (.var 1) (.lit (.int 0))) .nil))) .nil)) 0)))
  (.cons (.set 4 (.call 309 (.cons (.var 2) .nil) 0))
  (.cons (.set 5 (.call 384 (.cons (.var 2) (.cons (.var 3) .nil)) 0))
  (.cons (.ifs (.lnot (.call 317 (.cons (.var 2) (.cons (.var 5) (.cons (.call 387 (.cons (.var 2) (.cons (.var 5) .nil)) 0) (.cons (.var 4) .nil)))) 0)) (.cons (.ret (.lit (.bl false)) [])
  .nil) .nil)
  .nil))))))
  (.cons (.ret (.lit (.bl true)) [])
  .nil))
end L46
set_option Elab.async false
set_option linter.all false
set_option maxRecDepth 100000
set_option maxHeartbeats 0
namespace Lt
open PySem Li
def N__law_cell : List Str := [("_law_script" : Str), ("_law_k" : Str), ("_law_state" : Str), ("_law_cell_here" : Str)]
def p__law_cell : List Str := [("_law_script" : Str), ("_law_k" : Str)]
def b__law_cell : Ss := (.cons (.ifs (.cmp .Lt (.var 1) (.bf .len (.cons (.var 0) .nil))) (.cons (.ret (.idx (.var 0) (.var 1)) [])
  .nil) .nil)
  (.cons (.set 2 (.bin .Mod (.bin .Mult (.lit (.int 60013)) (.bin .Add (.bin .Add (.bin .Mult (.var 1) (.var 1)) (.bin .Mult (.lit (.int 7)) (.var 1))) (.lit (.int 3)))) (.lit (.int 999999937))))
  (.cons (.forr (.one 3) (.seq (.slc (.var 0) .no (.so (.lit (.int 4))))) (.cons (.set 2 (.bin .Mod (.bin .Add (.bin .Mult (.var 2) (.lit (.int 30103))) (.var 3)) (.lit (.int 999999937))))
  .nil))
  (.cons (.ret (.var 2) [])
  .nil))))
def N__law_purse : List Str := [("_law_cell_here" : Str)]
def p__law_purse : List Str := [("_law_cell_here" : Str)]
def b__law_purse : Ss := (.cons (.retc (.lst (.cons (.bin .Add (.bin .Mult (.bin .Mod (.var 0) (.lit (.int 999999937))) (.lit (.int 7001))) (.lit (.int 3301))) (.cons (.idx (.lst (.cons (.lit (.int 0)) (.cons (.var 0) .nil))) (.bf .int (.cons (.cmp .GtE (.var 0) (.bin .Pow (.lit (.int 10)) (.lit (.int 18)))) .nil))) (.cons (.lit (.int 0)) .nil)))))
  .nil)
def N__law_pick : List Str := [("_law_purse_here" : Str), ("_law_many" : Str), ("_law_state" : Str), ("_law_taken" : Str)]
def p__law_pick : List Str := [("_law_purse_here" : Str), ("_law_many" : Str)]
def b__law_pick : Ss := (.cons (.sub (.var 0) (.lit (.int 2)) (.bin .Add (.idx (.var 0) (.lit (.int 2))) (.lit (.int 1))))
  (.cons (.set 2 (.bin .Mod (.idx (.var 0) (.lit (.int 0))) (.lit (.int 999999937))))
  (.cons (.sub (.var 0) (.lit (.int 0)) (.bin .Add (.bin .Mult (.var 2) (.bin .Add (.bin .Mod (.var 2) (.lit (.int 50021))) (.lit (.int 20011)))) (.bin .Mult (.lit (.int 90001)) (.idx (.var 0) (.lit (.int 2))))))
  (.cons (.ifs (.cmp .Gt (.idx (.var 0) (.lit (.int 1))) (.lit (.int 0))) (.cons (.set 3 (.bin .Mod (.idx (.var 0) (.lit (.int 1))) (.var 1)))
  (.cons (.sub (.var 0) (.lit (.int 1)) (.bin .FloorDiv (.idx (.var 0) (.lit (.int 1))) (.var 1)))
  (.cons (.ret (.var 3) [])
  .nil))) .nil)
  (.cons (.ret (.bin .Mod (.bin .FloorDiv (.bin .Mod (.idx (.var 0) (.lit (.int 0))) (.lit (.int 999999937))) (.lit (.int 16))) (.var 1)) [])
  .nil)))))
def N__law_low : List Str := [("_law_top" : Str), ("_law_bottom" : Str), ("_law_one" : Str), ("_law_other" : Str)]
def p__law_low : List Str := [("_law_top" : Str), ("_law_bottom" : Str)]
def b__law_low : Ss := (.cons (.ifs (.cmp .Lt (.var 1) (.lit (.int 0))) (.cons (.par 0 1 false false (.bin .Sub (.lit (.int 0)) (.var 0)) (.bin .Sub (.lit (.int 0)) (.var 1)))
  .nil) .nil)
  (.cons (.par 2 3 false false (.bf .abs (.cons (.var 0) .nil)) (.var 1))
  (.cons (.whl (.cmp .Gt (.var 3) (.lit (.int 0))) (.cons (.par 2 3 false false (.var 3) (.bin .Mod (.var 2) (.var 3)))
  .nil))
  (.cons (.ret (.tup (.cons (.bin .FloorDiv (.var 0) (.var 2)) (.cons (.bin .FloorDiv (.var 1) (.var 2)) .nil))) [])
  .nil))))
def N__law_plus : List Str := [("_law_a" : Str), ("_law_b" : Str)]
def p__law_plus : List Str := [("_law_a" : Str), ("_law_b" : Str)]
def b__law_plus : Ss := (.cons (.ret (.call 303 (.cons (.bin .Add (.bin .Mult (.idx (.var 0) (.lit (.int 0))) (.idx (.var 1) (.lit (.int 1)))) (.bin .Mult (.idx (.var 1) (.lit (.int 0))) (.idx (.var 0) (.lit (.int 1))))) (.cons (.bin .Mult (.idx (.var 0) (.lit (.int 1))) (.idx (.var 1) (.lit (.int 1)))) .nil)) 0) [])
  .nil)
def N__law_minus : List Str := [("_law_a" : Str), ("_law_b" : Str)]
def p__law_minus : List Str := [("_law_a" : Str), ("_law_b" : Str)]
def b__law_minus : Ss := (.cons (.ret (.call 303 (.cons (.bin .Sub (.bin .Mult (.idx (.var 0) (.lit (.int 0))) (.idx (.var 1) (.lit (.int 1)))) (.bin .Mult (.idx (.var 1) (.lit (.int 0))) (.idx (.var 0) (.lit (.int 1))))) (.cons (.bin .Mult (.idx (.var 0) (.lit (.int 1))) (.idx (.var 1) (.lit (.int 1)))) .nil)) 0) [])
  .nil)
def N__law_times : List Str := [("_law_a" : Str), ("_law_b" : Str)]
def p__law_times : List Str := [("_law_a" : Str), ("_law_b" : Str)]
def b__law_times : Ss := (.cons (.ret (.call 303 (.cons (.bin .Mult (.idx (.var 0) (.lit (.int 0))) (.idx (.var 1) (.lit (.int 0)))) (.cons (.bin .Mult (.idx (.var 0) (.lit (.int 1))) (.idx (.var 1) (.lit (.int 1)))) .nil)) 0) [])
  .nil)
def N__law_below : List Str := [("_law_a" : Str), ("_law_b" : Str)]
def p__law_below : List Str := [("_law_a" : Str), ("_law_b" : Str)]
def b__law_below : Ss := (.cons (.ret (.cmp .Lt (.bin .Mult (.idx (.var 0) (.lit (.int 0))) (.idx (.var 1) (.lit (.int 1)))) (.bin .Mult (.idx (.var 1) (.lit (.int 0))) (.idx (.var 0) (.lit (.int 1))))) [])
  .nil)
def N__law_plain_share : List Str := [("_law_purse_here" : Str)]
def p__law_plain_share : List Str := [("_law_purse_here" : Str)]
def b__law_plain_share : Ss := (.cons (.ret (.call 303 (.cons (.call 302 (.cons (.var 0) (.cons (.lit (.int 61)) .nil)) 0) (.cons (.lit (.int 60)) .nil)) 0) [])
  .nil)
def N__law_eye : List Str := [("_law_purse_here" : Str), ("_law_way" : Str), ("_law_light" : Str)]
def p__law_eye : List Str := [("_law_purse_here" : Str)]
def b__law_eye : Ss := (.cons (.set 1 (.call 302 (.cons (.var 0) (.cons (.lit (.int 3)) .nil)) 0))
  (.cons (.ret (.idx (.lst (.cons (.tup (.cons (.lit (.int 1)) (.cons (.lit (.int 1)) (.cons (.lit (.int 1)) .nil)))) (.cons (.tup (.cons (.lit (.int 3)) (.cons (.lit (.int 6)) (.cons (.lit (.int 1)) .nil)))) (.cons (.bf .tuple (.cons (.comp (.bin .Add (.lit (.int 1)) (.call 302 (.cons (.var 0) (.cons (.lit (.int 99)) .nil)) 0)) (.one 2) (.rng1 (.lit (.int 3))) .no [2]) .nil)) .nil)))) (.var 1)) [])
  .nil))
def N__law_far : List Str := [("_law_one" : Str), ("_law_other" : Str), ("_law_gaze" : Str), ("_law_found" : Str), ("_law_light" : Str), ("_law_apart" : Str)]
def p__law_far : List Str := [("_law_one" : Str), ("_law_other" : Str), ("_law_gaze" : Str)]
def b__law_far : Ss := (.cons (.set 3 (.tup (.cons (.lit (.int 0)) (.cons (.lit (.int 1)) .nil))))
  (.cons (.forr (.one 4) (.rng1 (.lit (.int 3))) (.cons (.set 5 (.call 305 (.cons (.idx (.var 0) (.var 4)) (.cons (.idx (.var 1) (.var 4)) .nil)) 0))
  (.cons (.set 3 (.call 304 (.cons (.var 3) (.cons (.call 306 (.cons (.tup (.cons (.idx (.var 2) (.var 4)) (.cons (.lit (.int 1)) .nil))) (.cons (.call 306 (.cons (.var 5) (.cons (.var 5) .nil)) 0) .nil)) 0) .nil)) 0))
  .nil)))
  (.cons (.ret (.var 3) [])
  .nil)))
def N__law_lights : List Str := [("_law_purse_here" : Str), ("_law_many" : Str), ("_law_way" : Str), ("_law_rows" : Str), ("_law_k" : Str), ("_law_light" : Str), ("_law_row" : Str)]
def p__law_lights : List Str := [("_law_purse_here" : Str), ("_law_many" : Str)]
def b__law_lights : Ss := (.cons (.set 2 (.call 302 (.cons (.var 0) (.cons (.lit (.int 6)) .nil)) 0))
  (.cons (.setc 3 (.comp (.bf .tuple (.cons (.comp (.call 308 (.cons (.var 0) .nil) 0) (.one 5) (.rng1 (.lit (.int 3))) .no [5]) .nil)) (.one 4) (.rng1 (.var 1)) .no [4]))
  (.cons (.ifs (.cmp .Eq (.var 2) (.lit (.int 1))) (.cons (.setc 3 (.comp (.tup (.cons (.idx (.var 6) (.lit (.int 0))) (.cons (.idx (.var 6) (.lit (.int 0))) (.cons (.idx (.var 6) (.lit (.int 0))) .nil)))) (.one 6) (.seq (.var 3)) .no [6]))
  .nil) .nil)
  (.cons (.ifs (.cmp .Eq (.var 2) (.lit (.int 2))) (.cons (.setc 3 (.comp (.tup (.cons (.idx (.var 6) (.lit (.int 0))) (.cons (.idx (.var 6) (.lit (.int 1))) (.cons (.call 306 (.cons (.tup (.cons (.lit (.int 1)) (.cons (.lit (.int 2)) .nil))) (.cons (.call 304 (.cons (.idx (.var 6) (.lit (.int 0))) (.cons (.idx (.var 6) (.lit (.int 1))) .nil)) 0) .nil)) 0) .nil)))) (.one 6) (.seq (.var 3)) .no [6]))
  .nil) .nil)
  (.cons (.ifs (.land (.cmp .Eq (.var 2) (.lit (.int 3))) (.cmp .Gt (.var 1) (.lit (.int 1)))) (.cons (.sub (.var 3) (.bin .Sub (.var 1) (.lit (.int 1))) (.idx (.var 3) (.call 302 (.cons (.var 0) (.cons (.bin .Sub (.var 1) (.lit (.int 1))) .nil)) 0)))
  .nil) .nil)
  (.cons (.ret (.var 3) [3])
  .nil))))))
def N__law_parts : List Str := [("_law_purse_here" : Str), ("_law_many" : Str), ("_law_wide" : Str), ("_law_numbers" : Str), ("_law_k" : Str), ("_law_number" : Str)]
def p__law_parts : List Str := [("_law_purse_here" : Str), ("_law_many" : Str)]
def b__law_parts : Ss := (.cons (.set 2 (.idx (.lst (.cons (.lit (.int 2)) (.cons (.lit (.int 5)) (.cons (.lit (.int 12)) .nil)))) (.call 302 (.cons (.var 0) (.cons (.lit (.int 3)) .nil)) 0)))
  (.cons (.setc 3 (.comp (.call 302 (.cons (.var 0) (.cons (.var 2) .nil)) 0) (.one 4) (.rng1 (.var 1)) .no [4]))
  (.cons (.asub (.var 3) (.call 302 (.cons (.var 0) (.cons (.var 1) .nil)) 0) .Add (.lit (.int 1)))
  (.cons (.ret (.comp (.call 303 (.cons (.var 5) (.cons (.bf .sum (.cons (.var 3) .nil)) .nil)) 0) (.one 5) (.seq (.var 3)) .no [5]) [3])
  .nil))))
def N__law_made : List Str := [("_law_rows" : Str), ("_law_parts_here" : Str), ("_law_found" : Str), ("_law_light" : Str), ("_law_share" : Str), ("_law_k" : Str)]
def p__law_made : List Str := [("_law_rows" : Str), ("_law_parts_here" : Str)]
def b__law_made : Ss := (.cons (.setc 2 (.lst .nil))
  (.cons (.forr (.one 3) (.rng1 (.lit (.int 3))) (.cons (.set 4 (.tup (.cons (.lit (.int 0)) (.cons (.lit (.int 1)) .nil))))
  (.cons (.forr (.one 5) (.rng1 (.bf .len (.cons (.var 0) .nil))) (.cons (.set 4 (.call 304 (.cons (.var 4) (.cons (.call 306 (.cons (.idx (.var 1) (.var 5)) (.cons (.idx (.idx (.var 0) (.var 5)) (.var 3)) .nil)) 0) .nil)) 0))
  .nil))
  (.cons (.ex (.bm .append (.var 2) (.cons (.var 4) .nil)))
  .nil))))
  (.cons (.ret (.bf .tuple (.cons (.var 2) .nil)) [2])
  .nil)))
def N__law_weighed : List Str := [("_law_one" : Str), ("_law_other" : Str), ("_law_gaze" : Str), ("_law_found" : Str), ("_law_light" : Str)]
def p__law_weighed : List Str := [("_law_one" : Str), ("_law_other" : Str), ("_law_gaze" : Str)]
def b__law_weighed : Ss := (.cons (.set 3 (.tup (.cons (.lit (.int 0)) (.cons (.lit (.int 1)) .nil))))
  (.cons (.forr (.one 4) (.rng1 (.lit (.int 3))) (.cons (.set 3 (.call 304 (.cons (.var 3) (.cons (.call 306 (.cons (.tup (.cons (.idx (.var 2) (.var 4)) (.cons (.lit (.int 1)) .nil))) (.cons (.call 306 (.cons (.idx (.var 0) (.var 4)) (.cons (.idx (.var 1) (.var 4)) .nil)) 0) .nil)) 0) .nil)) 0))
  .nil))
  (.cons (.ret (.var 3) [])
  .nil)))
def N__law_gaps : List Str := [("_law_one" : Str), ("_law_other" : Str), ("_law_light" : Str)]
def p__law_gaps : List Str := [("_law_one" : Str), ("_law_other" : Str)]
def b__law_gaps : Ss := (.cons (.ret (.bf .tuple (.cons (.comp (.call 305 (.cons (.idx (.var 0) (.var 2)) (.cons (.idx (.var 1) (.var 2)) .nil)) 0) (.one 2) (.rng1 (.lit (.int 3))) .no [2]) .nil)) [])
  .nil)
def N__law_wish : List Str := [("_law_purse_here" : Str), ("_law_rows" : Str), ("_law_way" : Str), ("_law_made_here" : Str), ("_law_free" : Str), ("_law_corner" : Str), ("_law_light" : Str)]
def p__law_wish : List Str := [("_law_purse_here" : Str), ("_law_rows" : Str)]
def b__law_wish : Ss := (.cons (.set 2 (.call 302 (.cons (.var 0) (.cons (.lit (.int 4)) .nil)) 0))
  (.cons (.set 3 (.call 359 (.cons (.var 1) (.cons (.call 385 (.cons (.var 0) (.cons (.bf .len (.cons (.var 1) .nil)) .nil)) 0) .nil)) 0))
  (.cons (.set 4 (.bf .tuple (.cons (.comp (.call 308 (.cons (.var 0) .nil) 0) (.one 6) (.rng1 (.lit (.int 3))) .no [6]) .nil)))
  (.cons (.set 5 (.bf .tuple (.cons (.comp (.tup (.cons (.call 302 (.cons (.var 0) (.cons (.lit (.int 2)) .nil)) 0) (.cons (.lit (.int 1)) .nil))) (.one 6) (.rng1 (.lit (.int 3))) .no [6]) .nil)))
  (.cons (.ret (.idx (.lst (.cons (.var 3) (.cons (.var 4) (.cons (.var 4) (.cons (.var 5) .nil))))) (.var 2)) [])
  .nil)))))
def N__law_shade : List Str := [("_law_row" : Str)]
def p__law_shade : List Str := [("_law_row" : Str)]
def b__law_shade : Ss := (.cons (.ret (.call 24 (.cons (.idx (.var 0) (.lit (.int 0))) (.cons (.idx (.var 0) (.lit (.int 1))) (.cons (.idx (.var 0) (.lit (.int 2))) .nil))) 0) [])
  .nil)
def N__law_right : List Str := [("_law_purse_here" : Str), ("_law_rows" : Str), ("_law_wish_here" : Str), ("_law_gaze" : Str), ("_law_bulbs" : Str), ("_law_tint" : Str), ("_law_near" : Str), ("_law_best" : Str), ("_law_aim" : Str), ("_law_least" : Str), ("_law_others" : Str), ("_law_k" : Str), ("_law_row" : Str), ("_law_turn" : Str), ("_law_other" : Str)]
def p__law_right : List Str := [("_law_purse_here" : Str), ("_law_rows" : Str), ("_law_wish_here" : Str), ("_law_gaze" : Str)]
def b__law_right : Ss := (.cons (.par 4 5 false false (.bf .tuple (.cons (.comp (.call 388 (.cons (.var 12) .nil) 0) (.one 12) (.seq (.var 1)) .no [12]) .nil)) (.call 388 (.cons (.var 2) .nil) 0))
  (.cons (.set 6 (.idx (.callk 250 (.cons (.var 4) (.cons (.var 5) .nil)) [("eye" : Str)] (.cons (.var 3) .nil)) (.lit (.int 1))))
  (.cons (.set 7 (.tup (.cons (.attr (.var 6) ("ember" : Str)) (.cons (.attr (.var 6) ("leaf" : Str)) (.cons (.attr (.var 6) ("sky" : Str)) .nil)))))
  (.cons (.set 8 (.call 393 (.cons (.var 2) (.cons (.var 7) .nil)) 0))
  (.cons (.ifs (.bf .any (.cons (.comp (.cmp .Gt (.idx (.call 386 (.cons (.var 8) (.cons (.call 393 (.cons (.var 12) (.cons (.var 7) .nil)) 0) (.cons (.var 3) .nil))) 0) (.lit (.int 0))) (.lit (.int 0))) (.one 12) (.seq (.var 1)) .no [12]) .nil)) (.cons (.ret (.lit (.bl false)) [10])
  .nil) .nil)
  (.cons (.set 9 (.call 310 (.cons (.var 2) (.cons (.var 7) (.cons (.var 3) .nil))) 0))
  (.cons (.ifs (.cmp .NotEq (.callk 251 (.cons (.var 5) (.cons (.var 6) .nil)) [("eye" : Str)] (.cons (.var 3) .nil)) (.var 9)) (.cons (.ret (.lit (.bl false)) [10])
  .nil) .nil)
  (.cons (.setc 10 (.bin .Add (.bf .list (.cons (.var 1) .nil)) (.comp (.call 359 (.cons (.var 1) (.cons (.call 385 (.cons (.var 0) (.cons (.bf .len (.cons (.var 1) .nil)) .nil)) 0) .nil)) 0) (.one 13) (.rng1 (.lit (.int 2))) .no [13])))
  (.cons (.forr (.one 11) (.rng1 (.bin .Sub (.bf .len (.cons (.var 1) .nil)) (.lit (.int 1)))) (.cons (.ex (.bm .append (.var 10) (.cons (.call 359 (.cons (.slc (.var 1) (.so (.var 11)) (.so (.bin .Add (.var 11) (.lit (.int 2))))) (.cons (.lst (.cons (.tup (.cons (.lit (.int 1)) (.cons (.lit (.int 2)) .nil))) (.cons (.tup (.cons (.lit (.int 1)) (.cons (.lit (.int 2)) .nil))) .nil))) .nil)) 0) .nil)))
  .nil))
  (.cons (.ret (.lnot (.bf .any (.cons (.comp (.call 307 (.cons (.call 310 (.cons (.var 2) (.cons (.var 14) (.cons (.var 3) .nil))) 0) (.cons (.var 9) .nil)) 0) (.one 14) (.seq (.var 10)) .no [14]) .nil))) [10])
  .nil))))))))))
end Lt
set_option Elab.async false
set_option linter.all false
set_option maxRecDepth 100000
set_option maxHeartbeats 0
namespace Pt
open PySem Li
def N_is_whole : List Str := [("thing" : Str)]
def p_is_whole : List Str := [("thing" : Str)]
def b_is_whole : Ss := (.cons (.ret (.land (.bf (.isi .int) (.cons (.var 0) .nil)) (.lnot (.bf (.isi .bool) (.cons (.var 0) .nil)))) [])
  .nil)
def N_share_of : List Str := [("one" : Str), ("other" : Str)]
def p_share_of : List Str := [("one" : Str), ("other" : Str)]
def b_share_of : Ss := (.cons (.whl (.cmp .Gt (.var 1) (.lit (.int 0))) (.cons (.par 0 1 false false (.var 1) (.bin .Mod (.var 0) (.var 1)))
  .nil))
  (.cons (.ret (.var 0) [])
  .nil))
def N_low : List Str := [("top" : Str), ("bottom" : Str), ("shared" : Str)]
def p_low : List Str := [("top" : Str), ("bottom" : Str)]
def b_low : Ss := (.cons (.ifs (.cmp .Lt (.var 1) (.lit (.int 0))) (.cons (.par 0 1 false false (.bin .Sub (.lit (.int 0)) (.var 0)) (.bin .Sub (.lit (.int 0)) (.var 1)))
  .nil) .nil)
  (.cons (.set 2 (.call 13 (.cons (.bf .abs (.cons (.var 0) .nil)) (.cons (.var 1) .nil)) 0))
  (.cons (.ret (.tup (.cons (.bin .FloorDiv (.var 0) (.var 2)) (.cons (.bin .FloorDiv (.var 1) (.var 2)) .nil))) [])
  .nil)))
def N_is_fraction : List Str := [("thing" : Str), ("part" : Str)]
def p_is_fraction : List Str := [("thing" : Str)]
def b_is_fraction : Ss := (.cons (.ifs (.lor (.lnot (.bf (.isi .tup) (.cons (.var 0) .nil))) (.lor (.cmp .NotEq (.bf .len (.cons (.var 0) .nil)) (.lit (.int 2))) (.lnot (.bf .all (.cons (.comp (.call 12 (.cons (.var 1) .nil) 0) (.one 1) (.seq (.var 0)) .no [1]) .nil))))) (.cons (.ret (.lit (.bl false)) [])
  .nil) .nil)
  (.cons (.ret (.land (.cmp .Gt (.idx (.var 0) (.lit (.int 1))) (.lit (.int 0))) (.cmp .Eq (.call 13 (.cons (.bf .abs (.cons (.idx (.var 0) (.lit (.int 0))) .nil)) (.cons (.idx (.var 0) (.lit (.int 1))) .nil)) 0) (.lit (.int 1)))) [])
  .nil))
def N_from_zero : List Str := [("thing" : Str)]
def p_from_zero : List Str := [("thing" : Str)]
def b_from_zero : Ss := (.cons (.ret (.land (.call 15 (.cons (.var 0) .nil) 0) (.cmp .GtE (.idx (.var 0) (.lit (.int 0))) (.lit (.int 0)))) [])
  .nil)
def N_in_one : List Str := [("thing" : Str)]
def p_in_one : List Str := [("thing" : Str)]
def b_in_one : Ss := (.cons (.ret (.land (.call 16 (.cons (.var 0) .nil) 0) (.cmp .LtE (.idx (.var 0) (.lit (.int 0))) (.idx (.var 0) (.lit (.int 1))))) [])
  .nil)
def N_add : List Str := [("a" : Str), ("b" : Str)]
def p_add : List Str := [("a" : Str), ("b" : Str)]
def b_add : Ss := (.cons (.ret (.call 14 (.cons (.bin .Add (.bin .Mult (.idx (.var 0) (.lit (.int 0))) (.idx (.var 1) (.lit (.int 1)))) (.bin .Mult (.idx (.var 1) (.lit (.int 0))) (.idx (.var 0) (.lit (.int 1))))) (.cons (.bin .Mult (.idx (.var 0) (.lit (.int 1))) (.idx (.var 1) (.lit (.int 1)))) .nil)) 0) [])
  .nil)
def N_less : List Str := [("a" : Str), ("b" : Str)]
def p_less : List Str := [("a" : Str), ("b" : Str)]
def b_less : Ss := (.cons (.ret (.call 14 (.cons (.bin .Sub (.bin .Mult (.idx (.var 0) (.lit (.int 0))) (.idx (.var 1) (.lit (.int 1)))) (.bin .Mult (.idx (.var 1) (.lit (.int 0))) (.idx (.var 0) (.lit (.int 1))))) (.cons (.bin .Mult (.idx (.var 0) (.lit (.int 1))) (.idx (.var 1) (.lit (.int 1)))) .nil)) 0) [])
  .nil)
def N_mul : List Str := [("a" : Str), ("b" : Str)]
def p_mul : List Str := [("a" : Str), ("b" : Str)]
def b_mul : Ss := (.cons (.ret (.call 14 (.cons (.bin .Mult (.idx (.var 0) (.lit (.int 0))) (.idx (.var 1) (.lit (.int 0)))) (.cons (.bin .Mult (.idx (.var 0) (.lit (.int 1))) (.idx (.var 1) (.lit (.int 1)))) .nil)) 0) [])
  .nil)
def N_total : List Str := [("row" : Str), ("found" : Str), ("one" : Str)]
def p_total : List Str := [("row" : Str)]
def b_total : Ss := (.cons (.set 1 (.glob 11))
  (.cons (.forr (.one 2) (.seq (.var 0)) (.cons (.set 1 (.call 18 (.cons (.var 1) (.cons (.var 2) .nil)) 0))
  .nil))
  (.cons (.ret (.var 1) [])
  .nil)))
def N_Shade.__init__ : List Str := [("self" : Str), ("ember" : Str), ("leaf" : Str), ("sky" : Str), ("light" : Str), ("share" : Str)]
def p_Shade.__init__ : List Str := [("self" : Str), ("ember" : Str), ("leaf" : Str), ("sky" : Str)]
def b_Shade.__init__ : Ss := (.cons (.forr (.many [4, 5]) (.enum (.tup (.cons (.var 1) (.cons (.var 2) (.cons (.var 3) .nil))))) (.cons (.ifs (.lnot (.call 17 (.cons (.var 5) .nil) 0)) (.cons (.raise 0 .nil)
  .nil) .nil)
  .nil))
  (.cons (.att (.var 0) ("ember" : Str) (.var 1))
  (.cons (.att (.var 0) ("leaf" : Str) (.var 2))
  (.cons (.att (.var 0) ("sky" : Str) (.var 3))
  .nil))))
def N_is_shade : List Str := [("thing" : Str)]
def p_is_shade : List Str := [("thing" : Str)]
def b_is_shade : Ss := (.cons (.ret (.bf (.isi (.cls 24)) (.cons (.var 0) .nil)) [])
  .nil)
def N_check_shade : List Str := [("thing" : Str)]
def p_check_shade : List Str := [("thing" : Str)]
def b_check_shade : Ss := (.cons (.ifs (.lnot (.bf (.isi (.cls 24)) (.cons (.var 0) .nil))) (.cons (.raise 0 .nil)
  .nil) .nil)
  .nil)
def N_parts_of : List Str := [("shade" : Str)]
def p_parts_of : List Str := [("shade" : Str)]
def b_parts_of : Ss := (.cons (.ret (.tup (.cons (.attr (.var 0) ("ember" : Str)) (.cons (.attr (.var 0) ("leaf" : Str)) (.cons (.attr (.var 0) ("sky" : Str)) .nil)))) [])
  .nil)
def N_shade_by : List Str := [("shares" : Str)]
def p_shade_by : List Str := [("shares" : Str)]
def b_shade_by : Ss := (.cons (.ret (.call 24 (.cons (.idx (.var 0) (.lit (.int 0))) (.cons (.idx (.var 0) (.lit (.int 1))) (.cons (.idx (.var 0) (.lit (.int 2))) .nil))) 0) [])
  .nil)
def N_is_eye : List Str := [("thing" : Str), ("number" : Str)]
def p_is_eye : List Str := [("thing" : Str)]
def b_is_eye : Ss := (.cons (.ifs (.lor (.lnot (.bf (.isi .tup) (.cons (.var 0) .nil))) (.cmp .NotEq (.bf .len (.cons (.var 0) .nil)) (.bf .len (.cons (.glob 29) .nil)))) (.cons (.ret (.lit (.bl false)) [])
  .nil) .nil)
  (.cons (.ret (.bf .all (.cons (.comp (.land (.call 12 (.cons (.var 1) .nil) 0) (.chain .LtE .LtE (.lit (.int 1)) (.var 1) (.glob 28))) (.one 1) (.seq (.var 0)) .no [1]) .nil)) [])
  .nil))
def N_check_eye : List Str := [("eye" : Str)]
def p_check_eye : List Str := [("eye" : Str)]
def b_check_eye : Ss := (.cons (.ifs (.cmp .Is (.var 0) (.lit .non)) (.cons (.ret (.glob 29) [])
  .nil) .nil)
  (.cons (.ifs (.lnot (.call 30 (.cons (.var 0) .nil) 0)) (.cons (.raise 0 .nil)
  .nil) .nil)
  (.cons (.ret (.var 0) [])
  .nil)))
def N_far_by : List Str := [("one" : Str), ("other" : Str), ("eye" : Str), ("part" : Str), ("light" : Str)]
def p_far_by : List Str := [("one" : Str), ("other" : Str), ("eye" : Str)]
def b_far_by : Ss := (.cons (.ndef 3 0)
  (.cons (.ret (.call 22 (.cons (.comp (.calln 0 3 (.cons (.var 4) .nil)) (.one 4) (.rng1 (.bf .len (.cons (.var 2) .nil))) .no [4]) .nil) 0) [])
  .nil))
def NN_far_by_part : List Str := [("light" : Str), ("eye" : Str), ("one" : Str), ("other" : Str), ("gap" : Str)]
def np_far_by_part : List Str := [("light" : Str)]
def nf_far_by_part : List Str := [("eye" : Str), ("one" : Str), ("other" : Str)]
def nc_far_by_part : List Nat := [2, 0, 1]
def nb_far_by_part : Ss := (.cons (.set 4 (.call 19 (.cons (.idx (.var 2) (.var 0)) (.cons (.idx (.var 3) (.var 0)) .nil)) 0))
  (.cons (.ret (.call 20 (.cons (.tup (.cons (.idx (.var 1) (.var 0)) (.cons (.lit (.int 1)) .nil))) (.cons (.call 20 (.cons (.var 4) (.cons (.var 4) .nil)) 0) .nil)) 0) [])
  .nil))
def N_far : List Str := [("shade" : Str), ("other" : Str), ("eye" : Str)]
def p_far : List Str := [("shade" : Str), ("other" : Str), ("eye" : Str)]
def b_far : Ss := (.cons (.ex (.call 25 (.cons (.var 0) .nil) 0))
  (.cons (.ex (.call 25 (.cons (.var 1) .nil) 0))
  (.cons (.ret (.call 32 (.cons (.call 26 (.cons (.var 0) .nil) 0) (.cons (.call 26 (.cons (.var 1) .nil) 0) (.cons (.call 31 (.cons (.var 2) .nil) 0) .nil))) 0) [])
  .nil)))
def N_check_lights : List Str := [("lights" : Str), ("place" : Str), ("light" : Str)]
def p_check_lights : List Str := [("lights" : Str)]
def b_check_lights : Ss := (.cons (.ifs (.lor (.lnot (.bf (.isi .tup) (.cons (.var 0) .nil))) (.lnot (.chain .LtE .LtE (.lit (.int 1)) (.bf .len (.cons (.var 0) .nil)) (.glob 105)))) (.cons (.raise 0 .nil)
  .nil) .nil)
  (.cons (.forr (.many [1, 2]) (.enum (.var 0)) (.cons (.ifs (.lnot (.call 104 (.cons (.var 2) .nil) 0)) (.cons (.raise 0 .nil)
  .nil) .nil)
  .nil))
  .nil))
def N_gaps : List Str := [("one" : Str), ("other" : Str), ("a" : Str), ("b" : Str)]
def p_gaps : List Str := [("one" : Str), ("other" : Str)]
def b_gaps : Ss := (.cons (.ret (.bf .tuple (.cons (.comp (.call 19 (.cons (.var 2) (.cons (.var 3) .nil)) 0) (.many [2, 3]) (.zip (.var 0) (.var 1)) .no [2, 3]) .nil)) [])
  .nil)
def N_made_by : List Str := [("lights" : Str), ("parts" : Str), ("k" : Str), ("light" : Str), ("part" : Str)]
def p_made_by : List Str := [("lights" : Str), ("parts" : Str)]
def b_made_by : Ss := (.cons (.ret (.bf .tuple (.cons (.comp (.call 22 (.cons (.comp (.call 20 (.cons (.var 4) (.cons (.idx (.var 3) (.var 2)) .nil)) 0) (.many [3, 4]) (.zip (.var 0) (.var 1)) .no [3, 4]) .nil) 0) (.one 2) (.rng1 (.lit (.int 3))) .no [2]) .nil)) [])
  .nil)
def N_common_bottom : List Str := [("rows" : Str), ("found" : Str), ("row" : Str), ("share" : Str)]
def p_common_bottom : List Str := [("rows" : Str)]
def b_common_bottom : Ss := (.cons (.set 1 (.lit (.int 1)))
  (.cons (.forr (.one 2) (.seq (.var 0)) (.cons (.forr (.one 3) (.seq (.var 2)) (.cons (.aug 1 .Mult (.bin .FloorDiv (.idx (.var 3) (.lit (.int 1))) (.call 13 (.cons (.var 1) (.cons (.idx (.var 3) (.lit (.int 1))) .nil)) 0)))
  .nil))
  .nil))
  (.cons (.ret (.var 1) [])
  .nil)))
def N_products_of : List Str := [("lights" : Str), ("shares" : Str), ("eye" : Str), ("whole" : Str), ("rows" : Str), ("bottom" : Str), ("light" : Str), ("k" : Str), ("one" : Str), ("other" : Str)]
def p_products_of : List Str := [("lights" : Str), ("shares" : Str), ("eye" : Str)]
def b_products_of : Ss := (.cons (.set 5 (.call 110 (.cons (.bin .Add (.var 0) (.lst (.cons (.var 1) .nil))) .nil) 0))
  (.cons (.ndef 3 0)
  (.cons (.set 4 (.comp (.comp (.bin .Sub (.calln 0 3 (.cons (.idx (.var 6) (.var 7)) .nil)) (.calln 0 3 (.cons (.idx (.var 1) (.var 7)) .nil))) (.one 7) (.rng1 (.lit (.int 3))) .no [7]) (.one 6) (.seq (.var 0)) .no [6]))
  (.cons (.ret (.comp (.comp (.bf .sum (.cons (.comp (.bin .Mult (.bin .Mult (.idx (.var 2) (.var 7)) (.idx (.var 8) (.var 7))) (.idx (.var 9) (.var 7))) (.one 7) (.rng1 (.lit (.int 3))) .no [7]) .nil)) (.one 9) (.seq (.var 4)) .no [9]) (.one 8) (.seq (.var 4)) .no [8]) [])
  .nil))))
def NN_products_of_whole : List Str := [("share" : Str), ("bottom" : Str)]
def np_products_of_whole : List Str := [("share" : Str)]
def nf_products_of_whole : List Str := [("bottom" : Str)]
def nc_products_of_whole : List Nat := [5]
def nb_products_of_whole : Ss := (.cons (.ret (.bin .Mult (.idx (.var 0) (.lit (.int 0))) (.bin .FloorDiv (.var 1) (.idx (.var 0) (.lit (.int 1))))) [])
  .nil)
def N_size_of : List Str := [("rows" : Str), ("found" : Str), ("k" : Str), ("number" : Str), ("rest" : Str), ("row" : Str)]
def p_size_of : List Str := [("rows" : Str)]
def b_size_of : Ss := (.cons (.ifs (.cmp .Eq (.var 0) (.lst .nil)) (.cons (.ret (.lit (.int 1)) [])
  .nil) .nil)
  (.cons (.set 1 (.lit (.int 0)))
  (.cons (.forr (.many [2, 3]) (.enum (.idx (.var 0) (.lit (.int 0)))) (.cons (.set 4 (.call 112 (.cons (.comp (.bin .Add (.slc (.var 5) .no (.so (.var 2))) (.slc (.var 5) (.so (.bin .Add (.var 2) (.lit (.int 1)))) .no)) (.one 5) (.seq (.slc (.var 0) (.so (.lit (.int 1))) .no)) .no [5]) .nil) 0))
  (.cons (.aug 1 .Add (.bin .Mult (.bin .Mult (.idx (.lst (.cons (.lit (.int 1)) (.cons (.neg (.lit (.int 1))) .nil))) (.bin .Mod (.var 2) (.lit (.int 2)))) (.var 3)) (.var 4)))
  .nil)))
  (.cons (.ret (.var 1) [])
  .nil))))
def N_foot_of : List Str := [("products" : Str), ("chosen" : Str), ("first" : Str), ("rest" : Str), ("own" : Str), ("rows" : Str), ("aims" : Str), ("tops" : Str), ("k" : Str), ("bottom" : Str), ("a" : Str), ("b" : Str), ("row" : Str), ("aim" : Str)]
def p_foot_of : List Str := [("products" : Str), ("chosen" : Str)]
def b_foot_of : Ss := (.cons (.unp [2, 3] (.tup (.cons (.idx (.var 1) (.lit (.int 0))) (.cons (.slc (.var 1) (.so (.lit (.int 1))) .no) .nil))))
  (.cons (.set 4 (.idx (.var 0) (.var 2)))
  (.cons (.set 5 (.comp (.comp (.bin .Add (.bin .Sub (.bin .Sub (.idx (.idx (.var 0) (.var 10)) (.var 11)) (.idx (.var 4) (.var 10))) (.idx (.var 4) (.var 11))) (.idx (.var 4) (.var 2))) (.one 11) (.seq (.var 3)) .no [11]) (.one 10) (.seq (.var 3)) .no [10]))
  (.cons (.set 6 (.comp (.bin .Sub (.idx (.var 4) (.var 2)) (.idx (.var 4) (.var 10))) (.one 10) (.seq (.var 3)) .no [10]))
  (.cons (.setc 7 (.lst .nil))
  (.cons (.forr (.one 8) (.rng1 (.bf .len (.cons (.var 3) .nil))) (.cons (.ex (.bm .append (.var 7) (.cons (.call 112 (.cons (.comp (.bin .Add (.bin .Add (.slc (.var 12) .no (.so (.var 8))) (.lst (.cons (.var 13) .nil))) (.slc (.var 12) (.so (.bin .Add (.var 8) (.lit (.int 1)))) .no)) (.many [12, 13]) (.zip (.var 5) (.var 6)) .no [12, 13]) .nil) 0) .nil)))
  .nil))
  (.cons (.set 9 (.call 112 (.cons (.var 5) .nil) 0))
  (.cons (.ret (.tup (.cons (.bin .Add (.lst (.cons (.bin .Sub (.var 9) (.bf .sum (.cons (.var 7) .nil))) .nil)) (.var 7)) (.cons (.var 9) .nil))) [7])
  .nil))))))))
def N_is_foot : List Str := [("products" : Str), ("chosen" : Str), ("tops" : Str), ("bottom" : Str), ("pulls" : Str), ("here" : Str), ("row" : Str), ("top" : Str), ("k" : Str), ("pull" : Str)]
def p_is_foot : List Str := [("products" : Str), ("chosen" : Str), ("tops" : Str), ("bottom" : Str)]
def b_is_foot : Ss := (.cons (.ifs (.lor (.cmp .Eq (.var 3) (.lit (.int 0))) (.cmp .Lt (.bf .min (.cons (.var 2) .nil)) (.lit (.int 0)))) (.cons (.ret (.lit (.bl false)) [])
  .nil) .nil)
  (.cons (.set 4 (.comp (.bf .sum (.cons (.comp (.bin .Mult (.var 7) (.idx (.var 6) (.var 8))) (.many [7, 8]) (.zip (.var 2) (.var 1)) .no [7, 8]) .nil)) (.one 6) (.seq (.var 0)) .no [6]))
  (.cons (.set 5 (.bf .sum (.cons (.comp (.bin .Mult (.var 7) (.idx (.var 4) (.var 8))) (.many [7, 8]) (.zip (.var 2) (.var 1)) .no [7, 8]) .nil)))
  (.cons (.ret (.bf .all (.cons (.comp (.cmp .GtE (.bin .Mult (.var 3) (.var 9)) (.var 5)) (.one 9) (.seq (.var 4)) .no [9]) .nil)) [])
  .nil))))
def N_choices : List Str := [("many" : Str), ("found" : Str), ("mask" : Str), ("k" : Str), ("chosen" : Str)]
def p_choices : List Str := [("many" : Str)]
def b_choices : Ss := (.cons (.set 1 (.comp (.comp (.var 3) (.one 3) (.rng1 (.var 0)) (.so (.cmp .Eq (.bin .BitAnd (.bin .RShift (.var 2) (.var 3)) (.lit (.int 1))) (.lit (.int 1)))) [3]) (.one 2) (.rng (.lit (.int 1)) (.bin .LShift (.lit (.int 1)) (.var 0))) .no [2]))
  (.cons (.ret (.srtLen (.comp (.var 4) (.one 4) (.seq (.var 1)) (.so (.cmp .LtE (.bf .len (.cons (.var 4) .nil)) (.glob 106))) [4])) [])
  .nil))
def N_nearest_by : List Str := [("lights" : Str), ("shares" : Str), ("eye" : Str), ("products" : Str), ("chosen" : Str), ("tops" : Str), ("bottom" : Str), ("known" : Str), ("parts" : Str), ("k" : Str)]
def p_nearest_by : List Str := [("lights" : Str), ("shares" : Str), ("eye" : Str)]
def b_nearest_by : Ss := (.cons (.set 3 (.call 111 (.cons (.var 0) (.cons (.var 1) (.cons (.var 2) .nil))) 0))
  (.cons (.forr (.one 4) (.seq (.call 115 (.cons (.bf .len (.cons (.var 0) .nil)) .nil) 0)) (.cons (.unp [5, 6] (.call 113 (.cons (.var 3) (.cons (.var 4) .nil)) 0))
  (.cons (.ifs (.call 114 (.cons (.var 3) (.cons (.var 4) (.cons (.var 5) (.cons (.var 6) .nil)))) 0) (.cons (.set 7 (.dzip (.var 4) (.var 5)))
  (.cons (.set 8 (.bf .tuple (.cons (.comp (.call 14 (.cons (.bm .get (.var 7) (.cons (.var 9) (.cons (.lit (.int 0)) .nil))) (.cons (.var 6) .nil)) 0) (.one 9) (.rng1 (.bf .len (.cons (.var 0) .nil))) .no [9]) .nil)))
  (.cons (.ret (.tup (.cons (.var 8) (.cons (.call 109 (.cons (.var 0) (.cons (.var 8) .nil)) 0) .nil))) [])
  .nil))) .nil)
  .nil)))
  (.cons (.ret (.lit .non) [])
  .nil)))
def N_line_by : List Str := [("shares" : Str), ("near" : Str), ("eye" : Str), ("weights" : Str), ("number" : Str), ("gap" : Str), ("weight" : Str), ("share" : Str)]
def p_line_by : List Str := [("shares" : Str), ("near" : Str), ("eye" : Str)]
def b_line_by : Ss := (.cons (.set 3 (.bf .tuple (.cons (.comp (.call 20 (.cons (.tup (.cons (.var 4) (.cons (.lit (.int 1)) .nil))) (.cons (.var 5) .nil)) 0) (.many [4, 5]) (.zip (.var 2) (.call 108 (.cons (.var 0) (.cons (.var 1) .nil)) 0)) .no [4, 5]) .nil)))
  (.cons (.ret (.tup (.cons (.var 3) (.cons (.call 22 (.cons (.comp (.call 20 (.cons (.var 6) (.cons (.var 7) .nil)) 0) (.many [6, 7]) (.zip (.var 3) (.var 1)) .no [6, 7]) .nil) 0) .nil))) [])
  .nil))
def N_make : List Str := [("lights" : Str), ("shade" : Str), ("eye" : Str), ("numbers" : Str), ("shares" : Str), ("parts" : Str), ("near" : Str), ("light" : Str)]
def p_make : List Str := [("lights" : Str), ("shade" : Str), ("eye" : Str)]
def b_make : Ss := (.cons (.ex (.call 107 (.cons (.var 0) .nil) 0))
  (.cons (.ex (.call 25 (.cons (.var 1) .nil) 0))
  (.cons (.set 3 (.call 31 (.cons (.var 2) .nil) 0))
  (.cons (.set 4 (.call 26 (.cons (.var 1) .nil) 0))
  (.cons (.unp [5, 6] (.call 116 (.cons (.comp (.call 26 (.cons (.var 7) .nil) 0) (.one 7) (.seq (.var 0)) .no [7]) (.cons (.var 4) (.cons (.var 3) .nil))) 0))
  (.cons (.ifs (.cmp .Eq (.var 6) (.var 4)) (.cons (.ret (.tup (.cons (.var 5) (.cons (.call 47 (.cons (.var 6) .nil) 0) (.cons (.lit .non) .nil)))) [])
  .nil) .nil)
  (.cons (.ret (.tup (.cons (.var 5) (.cons (.call 47 (.cons (.var 6) .nil) 0) (.cons (.call 117 (.cons (.var 4) (.cons (.var 6) (.cons (.var 3) .nil))) 0) .nil)))) [])
  .nil)))))))
end Pt
set_option Elab.async false
set_option linter.all false
set_option maxRecDepth 100000
set_option maxHeartbeats 2000000
namespace Li
open PySem
/-! LiMono: more may be wanted. -/
theorem optQ_mono {α : Type} {o : Option α} {Q Q' : α → Prop} (h : ∀ v, Q v → Q' v) : optQ o Q → optQ o Q' := by
  cases o
  · exact id
  · exact h _
theorem intQ_mono {v : Val} {Q Q' : Int → Prop} (h : ∀ v, Q v → Q' v) : intQ v Q → intQ v Q' := by
  cases v <;> first
    | exact h _
    | exact id
theorem adrQ_mono {v : Val} {Q Q' : Addr → Prop} (h : ∀ v, Q v → Q' v) : adrQ v Q → adrQ v Q' := by
  cases v <;> first
    | exact h _
    | exact id
theorem lstQ_mono {v : Val} {Q Q' : List Val → Prop} (h : ∀ v, Q v → Q' v) : lstQ v Q → lstQ v Q' := by
  cases v <;> first
    | exact h _
    | exact id
theorem tupQ_mono {v : Val} {Q Q' : List Val → Prop} (h : ∀ v, Q v → Q' v) : tupQ v Q → tupQ v Q' := by
  cases v <;> first
    | exact h _
    | exact id
theorem gvalQ_mono {v : G} {Q Q' : Val → Prop} (h : ∀ v, Q v → Q' v) : gvalQ v Q → gvalQ v Q' := by
  cases v <;> first
    | exact h _
    | exact id
theorem objQ_mono {S : Sto} {a : Addr} {Q Q' : Addr → List (Str × Val) → Prop} (h : ∀ C v, Q C v → Q' C v) : objQ S a Q → objQ S a Q' := by
  unfold objQ
  split
  · exact h _ _
  · exact id
theorem celQ_mono {S : Sto} {a : Addr} {Q Q' : List Val → Prop} (h : ∀ v, Q v → Q' v) : celQ S a Q → celQ S a Q' := by
  unfold celQ
  split
  · exact h _
  · exact id
theorem slotQ_mono {σ : Env} {a : Nat} {Q Q' : Val → Prop} (h : ∀ v, Q v → Q' v) : slotQ σ a Q → slotQ σ a Q' := by
  unfold slotQ
  split
  · exact h _
  · exact id
theorem brV_mono {o : Option Bool} {A A' B B' : Prop} (h1 : A → A') (h2 : B → B') : brV o A B → brV o A' B' := by
  match o with
  | some true => exact h1
  | some false => exact h2
  | none => exact id
theorem addV_mono {S : Sto} {Q Q' : Val → Prop} (h : ∀ v, Q v → Q' v) {x y : Val} : addV S Q x y → addV S Q' x y := by
  unfold addV
  split <;> first
    | exact h _
    | exact fun q => ⟨q.1, h _ q.2⟩
    | exact optQ_mono fun _ => optQ_mono fun _ q => ⟨q.1, h _ q.2⟩
theorem int2_mono {C : Int → Int → Prop} {g : Int → Int → Int} {Q Q' : Val → Prop} (h : ∀ v, Q v → Q' v) {x y : Val} : int2 C g Q x y → int2 C g Q' x y := by
  unfold int2
  split
  · exact fun q => ⟨q.1, h _ q.2⟩
  · exact id
theorem mulV_mono {S : Sto} {Q Q' : Val → Prop} (h : ∀ v, Q v → Q' v) {x y : Val} : mulV S Q x y → mulV S Q' x y := by
  unfold mulV
  split <;> first
    | exact fun q => ⟨q.1, h _ q.2⟩
    | exact id
theorem binV_mono {S : Sto} {o : Operator} {x y : Val} {Q Q' : Val → Prop} (h : ∀ v, Q v → Q' v) : binV S o x y Q → binV S o x y Q' := by
  unfold binV
  cases o <;> first
    | exact addV_mono h
    | exact mulV_mono h
    | exact int2_mono h
    | exact id
theorem augV_mono {o : Operator} {x y : Val} {Q Q' : Val → Prop} (h : ∀ v, Q v → Q' v) : augV o x y Q → augV o x y Q' := by
  unfold augV
  cases o <;> first
    | exact int2_mono h
    | exact id
theorem cmpI_mono {f : Int → Int → Bool} {Q Q' : Bool → Prop} (h : ∀ v, Q v → Q' v) {x y : Val} : cmpI f Q x y → cmpI f Q' x y := by
  unfold cmpI
  split
  · exact h _
  · exact id
theorem eqV_mono {S : Sto} {f : Bool → Bool} {x y : Val} {Q Q' : Bool → Prop} (h : ∀ v, Q v → Q' v) : eqV S f x y Q → eqV S f x y Q' :=
  optQ_mono fun _ => optQ_mono fun _ q => ⟨q.1, q.2.1, h _ q.2.2⟩
theorem cmpV_mono {S : Sto} {o : CmpOp} {x y : Val} {Q Q' : Bool → Prop} (h : ∀ v, Q v → Q' v) : cmpV S o x y Q → cmpV S o x y Q' := by
  unfold cmpV
  cases o <;> first
    | exact cmpI_mono h
    | exact eqV_mono h
    | exact fun q => ⟨q.1, h _ q.2⟩
    | exact id
theorem idxV_mono {S : Sto} {x y : Val} {Q Q' : Val → Prop} (h : ∀ v, Q v → Q' v) : idxV S x y Q → idxV S x y Q' := by
  unfold idxV
  refine intQ_mono fun i => ?_
  split <;> first
    | exact optQ_mono h
    | exact optQ_mono fun _ => optQ_mono h
theorem slcV_mono {S : Sto} {x : Val} {l u : Option Int} {Q Q' : Val → Prop} (h : ∀ v, Q v → Q' v) : slcV S x l u Q → slcV S x l u Q' := by
  unfold slcV
  split <;> first
    | exact h _
    | exact optQ_mono fun _ => h _
theorem fldV_mono {A : Addr → Str → Prop} {S : Sto} {f : Str} {x : Val} {Q Q' : Val → Prop} (h : ∀ v, Q v → Q' v) : fldV A S f Q x → fldV A S f Q' x := by
  unfold fldV
  split <;> first
    | exact fun z => ⟨z.1, optQ_mono h z.2⟩
    | exact id
    | exact objQ_mono fun _ _ z => ⟨z.1, optQ_mono h z.2⟩
theorem bfV_mono {D : Nat → G} {f : Bf} {vs : List Val} {S : Sto} {Q Q' : Val → Prop} (h : ∀ v, Q v → Q' v) : bfV D f vs S Q → bfV D f vs S Q' := by
  unfold bfV
  split <;> first
    | exact h _
    | exact id
    | exact optQ_mono fun _ => h _
    | exact intQ_mono fun _ => h _
    | exact intQ_mono fun _ => intQ_mono fun _ => h _
    | exact optQ_mono fun _ q => ⟨q.1, fun m h1 h2 => h _ (q.2 m h1 h2)⟩
theorem capQ_mono {σ : Env} : ∀ {is : List Nat} {Q Q' : List Val → Prop}, (∀ vs, Q vs → Q' vs) → capQ σ is Q → capQ σ is Q'
  | [], _, _, h, q => h _ q
  | i :: r, _, _, h, q => slotQ_mono (fun v z => capQ_mono (is := r) (fun vs z => h _ z) z) q
theorem dctQ_mono {v : Val} {Q Q' : List L2.Key → List Val → Prop} (h : ∀ a b, Q a b → Q' a b) : dctQ v Q → dctQ v Q' := by
  cases v <;> first
    | exact h _ _
    | exact id
theorem bmV_mono {m : Bm} {x : Val} {vs : List Val} {S : Sto} {Q Q' : VQ} (h : ∀ v S, Q v S → Q' v S) : bmV m x vs S Q → bmV m x vs S Q' := by
  unfold bmV
  split <;> first
    | exact adrQ_mono fun _ => celQ_mono fun _ q => ⟨q.1, h _ _ q.2⟩
    | exact intQ_mono fun _ => dctQ_mono fun _ _ => h _ _
    | exact id
theorem asgs_mono {k k' : Env → Prop} (h : ∀ σ, k σ → k' σ) : ∀ {is : List Nat} {vs : List Val} {σ : Env}, asgs is vs σ k → asgs is vs σ k'
  | [], [], _, q => h _ q
  | [], _ :: _, _, q => q
  | _ :: _, [], _, q => q
  | _ :: is, _ :: vs, _, q => asgs_mono (is := is) (vs := vs) h q
theorem asg_mono {k k' : Env → Prop} (h : ∀ σ, k σ → k' σ) {t : Tg} {v : Val} {σ : Env} : asg t v σ k → asg t v σ k' := by
  unfold asg
  split
  · exact h _
  · exact tupQ_mono fun _ => asgs_mono h
theorem callK_mono {g : G} {vs ws : List Val} {S : Sto} {Q Q' : VQ} {er : EQ} (h : ∀ v S', Q v S' → Q' v S') : callK g vs ws S Q er → callK g vs ws S Q' er := by
  unfold callK
  cases g with
  | fnk sp n np ks => exact fun ⟨h1, h2, h3, h4⟩ => ⟨h1, h2, h3, sp.mono h (fun _ _ z => z) h4⟩
  | _ => exact fun z => z.elim
theorem callG_mono {g : G} {vs : List Val} {dn : Nat} {S : Sto} {Q Q' : VQ} {er : EQ} (h : ∀ v S', Q v S' → Q' v S') : callG g vs dn S Q er → callG g vs dn S Q' er := by
  unfold callG
  split
  · exact fun q => ⟨q.1, (ISp.mono _ h (fun _ _ z => z)) q.2⟩
  · refine fun q => ⟨q.1, fun x hx => ISp.mono _ (fun v S' z => ?_) (fun _ _ z => z) (q.2 x hx)⟩
    obtain ⟨z1, fs, z2, z3⟩ := z
    refine ⟨z1, fs, z2, ?_⟩
    split at z3
    · rename_i hf
      rw [if_pos hf]
      exact h _ _ z3
    · rename_i hf
      rw [if_neg hf]
      exact h _ _ z3
  · exact id
theorem compL_mono {step step' : Val → Sto → (Option Val → Sto → Prop) → Prop} {chk : Sto → Prop} (hs : ∀ v S k k', (∀ o S', k o S' → k' o S') → step v S k → step' v S k') {Q Q' : List Val → Sto → Prop} (h : ∀ v S', Q v S' → Q' v S') :
    ∀ {vs acc : List Val} {S : Sto}, compL step chk vs acc S Q → compL step' chk vs acc S Q'
  | [], _, _, q => ⟨q.1, h _ _ q.2⟩
  | v :: r, acc, S, q => by
    refine ⟨q.1, hs _ _ _ _ (fun o S' z => ?_) q.2⟩
    cases o with
    | none => exact compL_mono hs h (vs := r) z
    | some y => exact ⟨z.1, compL_mono hs h (vs := r) z.2⟩
theorem tst_mono {Q Q' : Bool → Sto → Prop} (h : ∀ v S', Q v S' → Q' v S') {v : Val} {S : Sto} : tst Q v S → tst Q' v S := optQ_mono fun _ => h _ _
mutual
theorem evE_mono : ∀ (e : E) {c : Cxt} {σ : Env} {S : Sto} {Q Q' : VQ}, (∀ v S', Q v S' → Q' v S') → evE c e σ S Q → evE c e σ S Q'
  | .var i, c, σ, S, Q, Q', h, q => slotQ_mono (fun _ => h _ _) q
  | .lit v, c, σ, S, Q, Q', h, q => h _ _ q
  | .glob g, c, σ, S, Q, Q', h, q => gvalQ_mono (fun _ => h _ _) q
  | .bin o a b, c, σ, S, Q, Q', h, q => evE_mono a (fun x S1 q1 => evE_mono b (fun y S2 q2 => binV_mono (fun v q3 => h _ _ q3) q2) q1) q
  | .neg a, c, σ, S, Q, Q', h, q => evE_mono a (fun x S1 q1 => intQ_mono (fun _ => h _ _) q1) q
  | .cmp o a b, c, σ, S, Q, Q', h, q => evE_mono a (fun x S1 q1 => evE_mono b (fun y S2 q2 => cmpV_mono (fun v q3 => h _ _ q3) q2) q1) q
  | .chain o p a b d, c, σ, S, Q, Q', h, q => evE_mono a (fun x S1 q1 => evE_mono b (fun y S2 q2 => cmpV_mono (fun v q3 => brV_mono (fun q3 => evE_mono d (fun z S3 q4 => cmpV_mono (fun v q3 => h _ _ q3) q4) q3) (h _ _) q3) q2) q1) q
  | .land a b, c, σ, S, Q, Q', h, q => evE_mono a (fun x S1 q1 => brV_mono (evE_mono b h) (h _ _) q1) q
  | .lor a b, c, σ, S, Q, Q', h, q => evE_mono a (fun x S1 q1 => brV_mono (h _ _) (evE_mono b h) q1) q
  | .lnot a, c, σ, S, Q, Q', h, q => evE_mono a (fun x S1 q1 => optQ_mono (fun _ => h _ _) q1) q
  | .ife t a b, c, σ, S, Q, Q', h, q => evE_mono t (fun x S1 q1 => brV_mono (evE_mono a h) (evE_mono b h) q1) q
  | .tup es, c, σ, S, Q, Q', h, q => evEs_mono es (fun vs S1 q1 => ⟨q1.1, h _ _ q1.2⟩) q
  | .lst es, c, σ, S, Q, Q', h, q => evEs_mono es (fun vs S1 q1 => ⟨q1.1, h _ _ q1.2⟩) q
  | .idx a i, c, σ, S, Q, Q', h, q => evE_mono a (fun x S1 q1 => evE_mono i (fun y S2 q2 => idxV_mono (fun v q3 => h _ _ q3) q2) q1) q
  | .slc a lo hi, c, σ, S, Q, Q', h, q => evE_mono a (fun x S1 q1 => evI_mono lo (fun l S2 q2 => evI_mono hi (fun u S3 q3 => slcV_mono (fun v q4 => h _ _ q4) q3) q2) q1) q
  | .call g es dn, c, σ, S, Q, Q', h, q => ⟨q.1, evEs_mono es (fun vs S1 q1 => callG_mono h q1) q.2⟩
  | .calln j i es, c, σ, S, Q, Q', h, q => ⟨q.1, evEs_mono es (fun vs S1 q1 => ⟨q1.1, capQ_mono (fun cs z => (c.L j).sp.mono h (fun _ _ z => z) z) q1.2⟩) q.2⟩
  | .callk g es ks kes, c, σ, S, Q, Q', h, q => ⟨q.1, evEs_mono es (fun vs S1 q1 => evEs_mono kes (fun ws S2 q2 => callK_mono h q2) q1) q.2⟩
  | .bf f es, c, σ, S, Q, Q', h, q => evEs_mono es (fun vs S1 q1 => bfV_mono (fun v q2 => h _ _ q2) q1) q
  | .bm m o es, c, σ, S, Q, Q', h, q => evE_mono o (fun x S1 q1 => ⟨q1.1, evEs_mono es (fun vs S2 q2 => bmV_mono h q2) q1.2⟩) q
  | .attr o f, c, σ, S, Q, Q', h, q => evE_mono o (fun x S1 q1 => fldV_mono (fun v q2 => h _ _ q2) q1) q
  | .comp elt t it ifs own, c, σ, S, Q, Q', h, q => evIt_mono it (fun items chk S1 q1 => compL_mono (fun v S2 k k' hk q2 => asg_mono (fun σ2 q3 => evO_mono ifs (fun b S3 q4 => brV_mono (evE_mono elt (fun y S4 q5 => hk _ _ q5)) (hk _ _) q4) q3) q2) (fun vs S5 q6 => h _ _ q6) q1) q
  | .srtLen e, c, σ, S, Q, Q', h, q => evE_mono e (fun x S1 q1 => optQ_mono (fun _ => optQ_mono fun _ => h _ _) q1) q
  | .dzip a b, c, σ, S, Q, Q', h, q => evE_mono a (fun x S1 q1 => evE_mono b (fun y S2 q2 => optQ_mono (fun _ => optQ_mono fun _ => optQ_mono fun _ z => ⟨z.1, z.2.1, h _ _ z.2.2⟩) q2) q1) q
theorem evEs_mono : ∀ (e : Es) {c : Cxt} {σ : Env} {S : Sto} {Q Q' : List Val → Sto → Prop}, (∀ v S', Q v S' → Q' v S') → evEs c e σ S Q → evEs c e σ S Q'
  | .nil, c, σ, S, Q, Q', h, q => h _ _ q
  | .cons e r, c, σ, S, Q, Q', h, q => evE_mono e (fun v S1 q1 => evEs_mono r (fun vs S2 q2 => h _ _ q2) q1) q
theorem evI_mono : ∀ (e : Eo) {c : Cxt} {σ : Env} {S : Sto} {Q Q' : Option Int → Sto → Prop}, (∀ v S', Q v S' → Q' v S') → evI c e σ S Q → evI c e σ S Q'
  | .no, c, σ, S, Q, Q', h, q => h _ _ q
  | .so e, c, σ, S, Q, Q', h, q => evE_mono e (fun v S1 q1 => intQ_mono (fun _ => h _ _) q1) q
theorem evO_mono : ∀ (e : Eo) {c : Cxt} {σ : Env} {S : Sto} {Q Q' : Bool → Sto → Prop}, (∀ v S', Q v S' → Q' v S') → evO c e σ S Q → evO c e σ S Q'
  | .no, c, σ, S, Q, Q', h, q => h _ _ q
  | .so e, c, σ, S, Q, Q', h, q => evE_mono e (fun v S1 q1 => tst_mono h q1) q
theorem evIt_mono : ∀ (e : It) {c : Cxt} {σ : Env} {S : Sto} {Q Q' : List Val → (Sto → Prop) → Sto → Prop}, (∀ v k S', Q v k S' → Q' v k S') → evIt c e σ S Q → evIt c e σ S Q'
  | .seq e, c, σ, S, Q, Q', h, q => evE_mono e (fun v S1 q1 => optQ_mono (fun _ => h _ _ _) q1) q
  | .rng a b, c, σ, S, Q, Q', h, q => evE_mono a (fun x S1 q1 => evE_mono b (fun y S2 q2 => intQ_mono (fun _ => intQ_mono fun _ q3 => ⟨q3.1, h _ _ _ q3.2⟩) q2) q1) q
  | .rng1 b, c, σ, S, Q, Q', h, q => evE_mono b (fun y S2 q2 => intQ_mono (fun _ q3 => ⟨q3.1, h _ _ _ q3.2⟩) q2) q
  | .enum e, c, σ, S, Q, Q', h, q => evE_mono e (fun v S1 q1 => optQ_mono (fun _ => h _ _ _) q1) q
  | .zip a b, c, σ, S, Q, Q', h, q => evE_mono a (fun x S1 q1 => evE_mono b (fun y S2 q2 => optQ_mono (fun _ => optQ_mono fun _ q3 => ⟨q3.1, h _ _ _ q3.2⟩) q2) q1) q
end
structure DE.le (D D' : DE) : Prop where
  nx : ∀ σ S, D.nx σ S → D'.nx σ S
  rt : ∀ v S, D.rt v S → D'.rt v S
  bk : ∀ σ S, D.bk σ S → D'.bk σ S
  ct : ∀ σ S, D.ct σ S → D'.ct σ S
theorem DE.le.refl (D : DE) : D.le D := ⟨fun _ _ h => h, fun _ _ h => h, fun _ _ h => h, fun _ _ h => h⟩
theorem forL_mono {step step' : Val → DE → Env → Sto → Prop} {chk : Sto → Prop} (hs : ∀ v D D' σ S, D.le D' → step v D σ S → step' v D' σ S) : ∀ {vs : List Val} {D D' : DE} {σ : Env} {S : Sto}, D.le D' → forL step chk vs D σ S → forL step' chk vs D' σ S
  | [], _, _, _, _, h, q => ⟨q.1, h.nx _ _ q.2⟩
  | v :: r, D, D', σ, S, h, q => ⟨q.1, hs v { D with nx := forL step chk r D, ct := forL step chk r D, bk := D.nx } { D' with nx := forL step' chk r D', ct := forL step' chk r D', bk := D'.nx } σ S
      ⟨fun _ _ z => forL_mono hs (vs := r) h z, h.rt, h.nx, fun _ _ z => forL_mono hs (vs := r) h z⟩ q.2⟩
theorem whlN_mono {t t' : Env → Sto → (Bool → Sto → Prop) → Prop} {body body' : DE → Env → Sto → Prop} (ht : ∀ σ S Q Q', (∀ v S', Q v S' → Q' v S') → t σ S Q → t' σ S Q') (hb : ∀ D D' σ S, D.le D' → body D σ S → body' D' σ S) :
    ∀ {n : Nat} {D D' : DE} {σ : Env} {S : Sto}, D.le D' → whlN t body n D σ S → whlN t' body' n D' σ S
  | 0, _, _, _, _, _, q => q.elim
  | n + 1, D, D', σ, S, h, q => ht _ _ _ _ (fun b S' z => brV_mono (fun z => hb { D with nx := whlN t body n D, ct := whlN t body n D, bk := D.nx } { D' with nx := whlN t' body' n D', ct := whlN t' body' n D', bk := D'.nx } _ _
      ⟨fun _ _ y => whlN_mono ht hb (n := n) h y, h.rt, h.nx, fun _ _ y => whlN_mono ht hb (n := n) h y⟩ z) (h.nx _ _) z) q
theorem setC_mono {i : Nat} {v : Val} {σ : Env} {S : Sto} {k k' : Env → Sto → Prop} (h : ∀ σ S, k σ S → k' σ S) : setC i v σ S k → setC i v σ S k' := lstQ_mono fun _ q a ha => h _ _ (q a ha)
theorem setB_mono {cl : Bool} {i : Nat} {v : Val} {σ : Env} {S : Sto} {k k' : Env → Sto → Prop} (h : ∀ σ S, k σ S → k' σ S) : setB cl i v σ S k → setB cl i v σ S k' := by
  cases cl
  · exact h _ _
  · exact setC_mono h
theorem frz_mono {σ : Env} {Q Q' : VQ} (h : ∀ v S, Q v S → Q' v S) : ∀ {fr : List Nat} {v : Val} {S : Sto}, frz σ fr v S Q → frz σ fr v S Q'
  | [], _, _, q => h _ _ q
  | i :: r, v, S, q => frz_mono h (fr := r) q
mutual
theorem evS_mono {c : Cxt} : ∀ (s : Sm) {D D' : DE} {σ : Env} {S : Sto}, D.le D' → evS c s D σ S → evS c s D' σ S
  | .set i e, D, D', σ, S, h, q => evE_mono e (fun v S1 q1 => h.nx _ _ q1) q
  | .setc i e, D, D', σ, S, h, q => evE_mono e (fun v S1 q1 => setC_mono h.nx q1) q
  | .ndef i j, D, D', σ, S, h, q => fun f F h1 h2 => h.nx _ _ (q f F h1 h2)
  | .unp ts e, D, D', σ, S, h, q => evE_mono e (fun v S1 q1 => asg_mono (fun σ2 q2 => h.nx _ _ q2) q1) q
  | .par i j ci cj a b, D, D', σ, S, h, q => evE_mono a (fun x S1 q1 => evE_mono b (fun y S2 q2 => setB_mono (fun σ2 S3 q3 => setB_mono h.nx q3) q2) q1) q
  | .aug i o e, D, D', σ, S, h, q => slotQ_mono (fun x q => evE_mono e (fun y S1 q1 => augV_mono (fun v q2 => h.nx _ _ q2) q1) q) q
  | .sub a i e, D, D', σ, S, h, q => evE_mono e (fun v S1 q1 => evE_mono a (fun x S2 q2 => evE_mono i (fun y S3 q3 => adrQ_mono (fun _ => intQ_mono fun _ => celQ_mono fun _ => optQ_mono fun _ => h.nx _ _) q3) q2) q1) q
  | .asub a i o e, D, D', σ, S, h, q => evE_mono a (fun x S1 q1 => evE_mono i (fun y S2 q2 => adrQ_mono (fun _ => intQ_mono fun _ => celQ_mono fun _ => optQ_mono fun _ => optQ_mono fun _ z => evE_mono e (fun u S3 q3 => augV_mono (fun v q4 => celQ_mono (fun _ z => ⟨z.1, h.nx _ _ z.2⟩) q4) q3) z) q2) q1) q
  | .att o f e, D, D', σ, S, h, q => evE_mono e (fun v S1 q1 => evE_mono o (fun x S2 q2 => adrQ_mono (fun _ => objQ_mono fun _ _ z => ⟨z.1, z.2.1, h.nx _ _ z.2.2⟩) q2) q1) q
  | .ex e, D, D', σ, S, h, q => evE_mono e (fun v S1 q1 => h.nx _ _ q1) q
  | .ret e fr, D, D', σ, S, h, q => evE_mono e (fun v S1 q1 => frz_mono h.rt q1) q
  | .retc e, D, D', σ, S, h, q => evE_mono e (fun v S1 q1 => lstQ_mono (fun _ z a ha => h.rt _ _ (z a ha)) q1) q
  | .retn fr, D, D', σ, S, h, q => frz_mono h.rt q
  | .ifs t a b, D, D', σ, S, h, q => evE_mono t (fun v S1 q1 => tst_mono (fun k S2 q2 => brV_mono (evSs_mono a h) (evSs_mono b h) q2) q1) q
  | .whl t b, D, D', σ, S, h, q => by
    obtain ⟨n, q⟩ := q
    exact ⟨n, whlN_mono (t := fun σ S Q => evE c t σ S (tst Q)) (t' := fun σ S Q => evE c t σ S (tst Q)) (body := evSs c b) (body' := evSs c b) (fun σ S Q Q' hQ z => evE_mono t (fun v S1 q1 => tst_mono hQ q1) z) (fun D D' σ S hD z => evSs_mono b hD z) h q⟩
  | .forr t it b, D, D', σ, S, h, q => evIt_mono it (fun items chk S1 q1 => forL_mono (fun v D D' σ S hD z => asg_mono (fun σ2 z2 => evSs_mono b hD z2) z) h q1) q
  | .raise g es, D, D', σ, S, h, q => q.elim
  | .pass, D, D', σ, S, h, q => h.nx _ _ q
  | .brk, D, D', σ, S, h, q => h.bk _ _ q
  | .cont, D, D', σ, S, h, q => h.ct _ _ q
theorem evSs_mono {c : Cxt} : ∀ (s : Ss) {D D' : DE} {σ : Env} {S : Sto}, D.le D' → evSs c s D σ S → evSs c s D' σ S
  | .nil, D, D', σ, S, h, q => h.nx _ _ q
  | .cons s r, D, D', σ, S, h, q => evS_mono s (D := { D with nx := evSs c r D }) (D' := { D' with nx := evSs c r D' }) ⟨fun _ _ z => evSs_mono r h z, h.rt, h.bk, h.ct⟩ q
end
end Li
set_option Elab.async false
set_option linter.all false
set_option maxRecDepth 100000
set_option maxHeartbeats 2000000
/-! LiRel: how plain values and the store lie in the abstract heap of HandS. -/
namespace Li
open PySem L2

mutual
def Rv (K : PySem.W.Frag) (M : Addr → Prop) (H : Hp) : Val → V → Prop
  | .non, x => x = .non
  | .bl b, x => x = .bl b
  | .int i, x => x = .int i
  | .str s, x => x = .str s
  | .adr a, x => x = .ref a
  | .scr ns, x => ∃ p, x = .ref p ∧ (((H p = some (.lst (ns.map V.int)) ∨ ∃ o, H p = some (.frz o (.lst (ns.map V.int)))) ∧ ¬ M p) ∨ SqL K (fun _ => none) p (ns.map V.int))
  | .tup vs, x => ∃ p xs, x = .ref p ∧ ((H p = some (.tup xs) ∧ ¬ M p) ∨ SqT K (fun _ => none) p xs) ∧ Rvs K M H vs xs
  | .lst vs, x => ∃ p xs, x = .ref p ∧ H p = some (.lst xs) ∧ ¬ M p ∧ Rvs K M H vs xs
  | .ins C ns vs, x => ∃ p dx xs, x = .ref p ∧ H p = some (.ins C dx (ns.zip xs)) ∧ ¬ M p ∧ ns.length = vs.length ∧ Rvs K M H vs xs
  | .clo f F, x => x = .ref f ∧ H f = some (NdefX.FnO f F) ∧ ¬ M f ∧ H F.c = some (LamX.CodeO F.c F.qual) ∧ ¬ M F.c
  | .dct ks vs, x => ∃ p xs, x = .ref p ∧ H p = some (.dK (ks.zip xs)) ∧ ¬ M p ∧ ks.length = vs.length ∧ Rvs K M H vs xs
def Rvs (K : PySem.W.Frag) (M : Addr → Prop) (H : Hp) : List Val → List V → Prop
  | [], xs => xs = []
  | v :: r, xs => ∃ x y, xs = x :: y ∧ Rv K M H v x ∧ Rvs K M H r y
end
/-- no table of code objects -/
def Solid (o : HO) : Prop := ∀ ps, o ≠ .tbl ps
theorem so_lst {xs : List V} : Solid (.lst xs) := fun _ z => nomatch z
theorem so_tup {xs : List V} : Solid (.tup xs) := fun _ z => nomatch z
theorem so_ins {C dx : Addr} {xs : List (Str × V)} : Solid (.ins C dx xs) := fun _ z => nomatch z
theorem so_frz {o : Obj} {u : HO} : Solid (.frz o u) := fun _ z => nomatch z
theorem so_dK {xs : List (Key × V)} : Solid (.dK xs) := fun _ z => nomatch z
theorem so_fn {f : Addr} {F : NdefX.NF} : Solid (NdefX.FnO f F) := fun _ z => NdefX.fnO_ne _ z
theorem so_code {c : Addr} {q : Str} : Solid (LamX.CodeO c q) := fun _ z => by
  unfold LamX.CodeO at z
  cases z
structure Keeps (M : Addr → Prop) (H : Hp) (M' : Addr → Prop) (H' : Hp) : Prop where
  keep : ∀ p o, H p = some o → Solid o → ¬ M p → H' p = some o ∧ ¬ M' p
mutual
theorem Rv.keep {K : PySem.W.Frag} {M M' : Addr → Prop} {H H' : Hp} (k : Keeps M H M' H') : ∀ {v : Val} {x : V}, Rv K M H v x → Rv K M' H' v x
  | .non, _, h => h
  | .bl _, _, h => h
  | .int _, _, h => h
  | .str _, _, h => h
  | .adr _, _, h => h
  | .scr ns, _, ⟨p, e, h⟩ => ⟨p, e, h.imp (fun ⟨h1, h2⟩ => h1.elim (fun h1 => ⟨.inl (k.keep p _ h1 so_lst h2).1, (k.keep p _ h1 so_lst h2).2⟩) fun ⟨o, h1⟩ => ⟨.inr ⟨o, (k.keep p _ h1 so_frz h2).1⟩, (k.keep p _ h1 so_frz h2).2⟩) id⟩
  | .tup vs, _, ⟨p, xs, e, h1, h2⟩ => ⟨p, xs, e, h1.imp (fun z => ⟨(k.keep p _ z.1 so_tup z.2).1, (k.keep p _ z.1 so_tup z.2).2⟩) id, Rvs.keep k h2⟩
  | .lst vs, _, ⟨p, xs, e, h1, h2, h3⟩ => ⟨p, xs, e, (k.keep p _ h1 so_lst h2).1, (k.keep p _ h1 so_lst h2).2, Rvs.keep k h3⟩
  | .ins C ns vs, _, ⟨p, dx, xs, e, h1, h2, h3, h4⟩ => ⟨p, dx, xs, e, (k.keep p _ h1 so_ins h2).1, (k.keep p _ h1 so_ins h2).2, h3, Rvs.keep k h4⟩
  | .clo f F, _, ⟨e, h1, h2, h3, h4⟩ => ⟨e, (k.keep f _ h1 so_fn h2).1, (k.keep f _ h1 so_fn h2).2, (k.keep _ _ h3 so_code h4).1, (k.keep _ _ h3 so_code h4).2⟩
  | .dct ks vs, _, ⟨p, xs, e, h1, h2, h3, h4⟩ => ⟨p, xs, e, (k.keep p _ h1 so_dK h2).1, (k.keep p _ h1 so_dK h2).2, h3, Rvs.keep k h4⟩
theorem Rvs.keep {K : PySem.W.Frag} {M M' : Addr → Prop} {H H' : Hp} (k : Keeps M H M' H') : ∀ {v : List Val} {x : List V}, Rvs K M H v x → Rvs K M' H' v x
  | [], _, h => h
  | v :: r, _, ⟨x, y, e, h1, h2⟩ => ⟨x, y, e, Rv.keep k h1, Rvs.keep k h2⟩
end
theorem Rvs.length {K : PySem.W.Frag} {M : Addr → Prop} {H : Hp} : ∀ {vs : List Val} {xs : List V}, Rvs K M H vs xs → vs.length = xs.length
  | [], _, h => by
    cases (show _ = [] from h)
    rfl
  | v :: r, _, ⟨x, y, e, h1, h2⟩ => by rw [e, List.length_cons, List.length_cons, Rvs.length h2]
theorem Rvs.append {K : PySem.W.Frag} {M : Addr → Prop} {H : Hp} : ∀ {vs us : List Val} {xs ys : List V}, Rvs K M H vs xs → Rvs K M H us ys → Rvs K M H (vs ++ us) (xs ++ ys)
  | [], _, _, _, h, g => by rw [show _ = [] from h]; exact g
  | v :: r, _, _, _, ⟨x, y, e, h1, h2⟩, g => by rw [e]; exact ⟨x, y ++ _, rfl, h1, Rvs.append h2 g⟩
theorem Rvs.take {K : PySem.W.Frag} {M : Addr → Prop} {H : Hp} : ∀ {vs : List Val} {xs : List V} (n : Nat), Rvs K M H vs xs → Rvs K M H (vs.take n) (xs.take n)
  | _, _, 0, _ => by rw [List.take_zero, List.take_zero]; exact rfl
  | [], _, n + 1, h => by rw [show _ = [] from h]; exact rfl
  | v :: r, _, n + 1, ⟨x, y, e, h1, h2⟩ => by rw [e]; exact ⟨x, y.take n, rfl, h1, Rvs.take n h2⟩
theorem Rvs.drop {K : PySem.W.Frag} {M : Addr → Prop} {H : Hp} : ∀ {vs : List Val} {xs : List V} (n : Nat), Rvs K M H vs xs → Rvs K M H (vs.drop n) (xs.drop n)
  | _, _, 0, h => by rw [List.drop_zero, List.drop_zero]; exact h
  | [], _, n + 1, h => by rw [show _ = [] from h]; exact rfl
  | v :: r, _, n + 1, ⟨x, y, e, h1, h2⟩ => by rw [e]; exact Rvs.drop n h2
theorem Rvs.get {K : PySem.W.Frag} {M : Addr → Prop} {H : Hp} : ∀ {vs : List Val} {xs : List V} {i : Nat} {v : Val}, Rvs K M H vs xs → vs[i]? = some v → ∃ x, xs[i]? = some x ∧ Rv K M H v x
  | [], _, _, _, _, g => by simp at g
  | u :: r, _, 0, v, ⟨x, y, e, h1, h2⟩, g => by
    have : u = v := by simpa using g
    rw [e, ← this]
    exact ⟨x, rfl, h1⟩
  | u :: r, _, i + 1, v, ⟨x, y, e, h1, h2⟩, g => by
    rw [e]
    exact Rvs.get (i := i) h2 (by simpa using g)
theorem Rvs.set {K : PySem.W.Frag} {M : Addr → Prop} {H : Hp} {v : Val} {x : V} (r : Rv K M H v x) : ∀ {vs : List Val} {xs : List V} (i : Nat), Rvs K M H vs xs → Rvs K M H (vs.set i v) (xs.set i x)
  | [], _, _, h => by rw [show _ = [] from h]; exact rfl
  | u :: q, _, 0, ⟨y, z, e, h1, h2⟩ => by rw [e]; exact ⟨x, z, rfl, r, h2⟩
  | u :: q, _, i + 1, ⟨y, z, e, h1, h2⟩ => by rw [e]; exact ⟨y, z.set i x, rfl, h1, Rvs.set r i h2⟩
theorem Rvs.cut {K : PySem.W.Frag} {M : Addr → Prop} {H : Hp} {vs : List Val} {xs : List V} (h : Rvs K M H vs xs) (lo hi : Option Int) : Rvs K M H (Li.cut vs lo hi) (cutV xs lo hi) := by
  unfold Li.cut cutV
  rw [← h.length]
  exact (h.drop _).take _
theorem Rvs.ints {K : PySem.W.Frag} {M : Addr → Prop} {H : Hp} : ∀ ns : List Int, Rvs K M H (ns.map Val.int) (ns.map V.int)
  | [] => rfl
  | n :: r => ⟨_, _, rfl, rfl, Rvs.ints r⟩
theorem Rvs.ofInts {K : PySem.W.Frag} {M : Addr → Prop} {H : Hp} : ∀ {vs : List Val} {ns : List Int} {xs : List V}, asInts vs = some ns → Rvs K M H vs xs → xs = ns.map V.int
  | [], _, _, e, h => by
    cases e
    exact h
  | v :: r, ns, _, e, ⟨x, y, ex, h1, h2⟩ => by
    cases v with
    | int i =>
      have e1 : (asInts r).map (i :: ·) = some ns := e
      cases q : asInts r with
      | none =>
        rw [q] at e1
        cases e1
      | some ms =>
        rw [q] at e1
        have e2 : i :: ms = ns := Option.some.inj e1
        rw [ex, ← e2, Rvs.ofInts q h2, show x = V.int i from h1]
        rfl
    | _ => cases e
theorem Rvs.ofBools {K : PySem.W.Frag} {M : Addr → Prop} {H : Hp} : ∀ {vs : List Val} {ns : List Bool} {xs : List V}, asBools vs = some ns → Rvs K M H vs xs → xs = ns.map V.bl
  | [], _, _, e, h => by
    cases e
    exact h
  | v :: r, ns, _, e, ⟨x, y, ex, h1, h2⟩ => by
    cases v with
    | bl i =>
      have e1 : (asBools r).map (i :: ·) = some ns := e
      cases q : asBools r with
      | none =>
        rw [q] at e1
        cases e1
      | some ms =>
        rw [q] at e1
        have e2 : i :: ms = ns := Option.some.inj e1
        rw [ex, ← e2, Rvs.ofBools q h2, show x = V.bl i from h1]
        rfl
    | _ => cases e
theorem atI_get {K : PySem.W.Frag} {M : Addr → Prop} {H : Hp} {vs : List Val} {xs : List V} {i : Int} {v : Val} (h : Rvs K M H vs xs) (e : atI vs i = some v) : ∃ x, atI xs i = some x ∧ Rv K M H v x := by
  unfold atI at e ⊢
  rw [← h.length]
  cases q : ixN vs.length i with
  | none =>
    rw [q] at e
    cases e
  | some j =>
    rw [q] at e
    obtain ⟨x, h1, h2⟩ := h.get (i := j) (v := v) e
    exact ⟨x, h1, h2⟩
theorem SqT.const {K : PySem.W.Frag} {p : Addr} {xs : List V} (h : SqT K (fun _ => none) p xs) (H : Hp) : SqT K H p xs := by
  rcases h with (h | ⟨o, h⟩) | h
  · cases h
  · cases h
  · exact .inr h
theorem Rv.seqT {K : PySem.W.Frag} {M : Addr → Prop} {H : Hp} {vs : List Val} {x : V} (h : Rv K M H (.tup vs) x) : ∃ p xs, x = .ref p ∧ SqT K H p xs ∧ Rvs K M H vs xs := by
  obtain ⟨p, xs, e, h1, h2⟩ := h
  rcases h1 with h1 | h1
  · exact ⟨p, xs, e, SqT.of h1.1, h2⟩
  · exact ⟨p, xs, e, SqT.const h1 H, h2⟩
theorem SqL.const {K : PySem.W.Frag} {p : Addr} {xs : List V} (h : SqL K (fun _ => none) p xs) (H : Hp) : SqL K H p xs := by
  rcases h with (h | ⟨o, h⟩) | h
  · cases h
  · cases h
  · exact .inr h
theorem Rv.seqS {K : PySem.W.Frag} {M : Addr → Prop} {H : Hp} {ns : List Int} {x : V} (h : Rv K M H (.scr ns) x) : ∃ p, x = .ref p ∧ SqL K H p (ns.map V.int) := by
  obtain ⟨p, e, h1⟩ := h
  rcases h1 with ⟨h1 | ⟨o, h1⟩, h2⟩ | h1
  · exact ⟨p, e, .inl (.inl h1)⟩
  · exact ⟨p, e, .inl (.inr ⟨o, h1⟩)⟩
  · exact ⟨p, e, SqL.const h1 H⟩
/-- a constant, whatever the heap -/
theorem Rv.const {K : PySem.W.Frag} {M : Addr → Prop} {H : Hp} {v : Val} {x : V} (h : Rv K (fun _ => True) (fun _ => none) v x) : Rv K M H v x := Rv.keep ⟨fun p o e _ _ => by cases e⟩ h
theorem Rvs.const {K : PySem.W.Frag} {M : Addr → Prop} {H : Hp} {v : List Val} {x : List V} (h : Rvs K (fun _ => True) (fun _ => none) v x) : Rvs K M H v x := Rvs.keep ⟨fun p o e _ _ => by cases e⟩ h

/-! ### the store -/
/-- addresses that stand apart; the tables of code objects that nested defs use -/
structure Hid where
  p : Addr → Prop
  T : List NdefX.NTab
instance : CoeFun Hid fun _ => Addr → Prop := ⟨Hid.p⟩
abbrev Hid.add (h : Hid) (D : Addr) : Hid := ⟨fun p => h.p p ∨ p = D, h.T⟩
def Mset (S : Sto) (hid : Hid) : Addr → Prop := fun p => S p ≠ none ∨ hid p
def RC (K : PySem.W.Frag) (M : Addr → Prop) (H : Hp) (a : Addr) : Cell → Prop
  | .lst vs => ∃ xs, H a = some (.lst xs) ∧ Rvs K M H vs xs
  | .obj C fs => ∃ dx xs, H a = some (.ins C dx ((fs.map (·.1)).zip xs)) ∧ Rvs K M H (fs.map (·.2)) xs
  | .dK kvs => ∃ xs, H a = some (.dK ((kvs.map (·.1)).zip xs)) ∧ Rvs K M H (kvs.map (·.2)) xs
structure Rel (K : PySem.W.Frag) (hid : Hid) (S : Sto) (H : Hp) : Prop where
  cells : ∀ a c, S a = some c → RC K (Mset S hid) H a c
  hids : ∀ p, hid p → ∃ xs, H p = some (.lst xs)
  dis : ∀ p, hid p → S p = none
  tabs : NdefX.TabsN hid.T H
structure Ext (S : Sto) (H : Hp) (S' : Sto) (H' : Hp) : Prop where
  keep : ∀ p o, H p = some o → Solid o → S p = none → H' p = some o ∧ S' p = none
  dom : ∀ p, H p ≠ none → H' p ≠ none
theorem Ext.refl (S : Sto) (H : Hp) : Ext S H S H := ⟨fun _ _ h _ k => ⟨h, k⟩, fun _ h => h⟩
theorem Ext.trans {S S1 S2 : Sto} {H H1 H2 : Hp} (a : Ext S H S1 H1) (b : Ext S1 H1 S2 H2) : Ext S H S2 H2 := ⟨fun p o h sd k => b.keep p o (a.keep p o h sd k).1 sd (a.keep p o h sd k).2, fun p h => b.dom p (a.dom p h)⟩
theorem Ext.keeps {S S' : Sto} {H H' : Hp} (e : Ext S H S' H') (hid : Hid) : Keeps (Mset S hid) H (Mset S' hid) H' := ⟨fun p o h sd n => by
  have hs : S p = none := Classical.byContradiction fun z => n (.inl z)
  obtain ⟨h1, h2⟩ := e.keep p o h sd hs
  exact ⟨h1, fun z => z.elim (fun q => q h2) fun q => n (.inr q)⟩⟩
theorem Ext.free {S S' : Sto} {H H' : Hp} (e : Ext S H S' H') {p : Addr} (h : H' p = none) : H p = none := Classical.byContradiction fun z => e.dom p z h
section
variable {K : PySem.W.Frag} {hid : Hid} {S : Sto} {H : Hp}
theorem tabs_new {T : List NdefX.NTab} {a : Addr} {o : HO} (t : NdefX.TabsN T H) (h : H a = none) : NdefX.TabsN T (upd H a o) := t.ext fun b u e => by
  rw [upd_ne (ne_of_none e h)]
  exact e
theorem tabs_put {T : List NdefX.NTab} {a : Addr} {o : HO} (t : NdefX.TabsN T H) (h1 : ∀ ps, H a ≠ some (.tbl ps)) (h2 : ∀ c q, H a ≠ some (LamX.CodeO c q)) : NdefX.TabsN T (upd H a o) := fun p hp => by
  obtain ⟨ps, e1, e2, e3⟩ := t p hp
  refine ⟨ps, ?_, e2, fun pos cv hc => ?_⟩
  · rw [upd_ne fun (z : p.1 = a) => h1 ps (by rw [← z]; exact e1)]
    exact e1
  · obtain ⟨c, q1, q2⟩ := e3 pos cv hc
    refine ⟨c, q1, ?_⟩
    rw [upd_ne fun (z : c = a) => h2 c (p.2 pos.line pos.col) (by rw [← z]; exact q2)]
    exact q2
theorem Rel.there (r : Rel K hid S H) {a : Addr} {c : Cell} (h : S a = some c) : H a ≠ none := by
  have q := r.cells a c h
  cases c with
  | lst vs =>
    obtain ⟨xs, e, _⟩ := q
    rw [e]
    exact fun z => nomatch z
  | obj C fs =>
    obtain ⟨dx, xs, e, _⟩ := q
    rw [e]
    exact fun z => nomatch z
  | dK kvs =>
    obtain ⟨xs, e, _⟩ := q
    rw [e]
    exact fun z => nomatch z
theorem Rel.free (r : Rel K hid S H) {a : Addr} (h : H a = none) : S a = none := by
  cases e : S a with
  | none => rfl
  | some c => exact absurd h (r.there e)
theorem Rel.nohid (r : Rel K hid S H) {a : Addr} (h : H a = none) : ¬ hid a := fun z => by
  obtain ⟨xs, e⟩ := r.hids a z
  rw [h] at e
  cases e
/-- what is new stands apart from all that was -/
theorem keeps_new {a : Addr} {o : HO} (h : H a = none) : Keeps (Mset S hid) H (Mset S hid) (upd H a o) := ⟨fun p u e sd n => ⟨by
  rw [upd_ne (ne_of_none e h)]
  exact e, n⟩⟩
theorem RC.keep {M M' : Addr → Prop} {H' : Hp} {a : Addr} {c : Cell} (k : Keeps M H M' H') (e : H' a = H a) (h : RC K M H a c) : RC K M' H' a c := by
  cases c with
  | lst vs =>
    obtain ⟨xs, e1, r⟩ := h
    exact ⟨xs, e.trans e1, r.keep k⟩
  | obj C fs =>
    obtain ⟨dx, xs, e1, r⟩ := h
    exact ⟨dx, xs, e.trans e1, r.keep k⟩
  | dK kvs =>
    obtain ⟨xs, e1, r⟩ := h
    exact ⟨xs, e.trans e1, r.keep k⟩
/-- a new plain thing -/
theorem Rel.new (r : Rel K hid S H) {a : Addr} {o : HO} (h : H a = none) : Rel K hid S (upd H a o) where
  cells := fun b c e => (r.cells b c e).keep (keeps_new h) (upd_ne (fun z => r.there e (z ▸ h)))
  hids := fun p hp => by
    obtain ⟨xs, e⟩ := r.hids p hp
    exact ⟨xs, by rw [upd_ne (ne_of_none e h)]; exact e⟩
  dis := r.dis
  tabs := tabs_new r.tabs h
theorem Ext.new (S : Sto) {a : Addr} {o : HO} (h : H a = none) : Ext S H S (upd H a o) where
  keep := fun p u e sd k => ⟨by rw [upd_ne (ne_of_none e h)]; exact e, k⟩
  dom := fun p hp => by
    by_cases e : p = a
    · rw [e, upd_same]
      exact fun z => nomatch z
    · rw [upd_ne e]
      exact hp
/-- a new cell -/
theorem keeps_cell {a : Addr} {o : HO} {c : Cell} (h : H a = none) : Keeps (Mset S hid) H (Mset (S.set a c) hid) (upd H a o) := ⟨fun p u e sd n => by
  have ne : p ≠ a := ne_of_none e h
  refine ⟨by rw [upd_ne ne]; exact e, fun z => n ?_⟩
  rcases z with z | z
  · rw [Sto.set_ne ne] at z
    exact .inl z
  · exact .inr z⟩
theorem Rel.cell (r : Rel K hid S H) {a : Addr} {o : HO} {c : Cell} (h : H a = none) (new : RC K (Mset (S.set a c) hid) (upd H a o) a c) : Rel K hid (S.set a c) (upd H a o) where
  cells := fun b d e => by
    by_cases q : b = a
    · rw [q, Sto.set_same] at e
      cases e
      rw [q]
      exact new
    · rw [Sto.set_ne q] at e
      exact (r.cells b d e).keep (keeps_cell h) (upd_ne q)
  hids := (r.new h).hids
  dis := fun p hp => by rw [Sto.set_ne fun (z : p = a) => r.nohid h (by rw [← z]; exact hp)]; exact r.dis p hp
  tabs := tabs_new r.tabs h
theorem Ext.cell {a : Addr} {o : HO} {c : Cell} (h : H a = none) : Ext S H (S.set a c) (upd H a o) where
  keep := fun p u e sd k => by
    have ne : p ≠ a := ne_of_none e h
    exact ⟨by rw [upd_ne ne]; exact e, by rw [Sto.set_ne ne]; exact k⟩
  dom := (Ext.new S h).dom
/-- a cell is changed -/
theorem keeps_put {a : Addr} {o : HO} {c d : Cell} (h : S a = some d) : Keeps (Mset S hid) H (Mset (S.set a c) hid) (upd H a o) := ⟨fun p u e sd n => by
  have ne : p ≠ a := fun z => n (.inl (by rw [z, h]; exact fun q => nomatch q))
  refine ⟨by rw [upd_ne ne]; exact e, fun z => n ?_⟩
  rcases z with z | z
  · rw [Sto.set_ne ne] at z
    exact .inl z
  · exact .inr z⟩
theorem Rel.put (r : Rel K hid S H) {a : Addr} {o : HO} {c d : Cell} (h : S a = some d) (new : RC K (Mset (S.set a c) hid) (upd H a o) a c) : Rel K hid (S.set a c) (upd H a o) where
  cells := fun b d e => by
    by_cases q : b = a
    · rw [q, Sto.set_same] at e
      cases e
      rw [q]
      exact new
    · rw [Sto.set_ne q] at e
      exact (r.cells b d e).keep (keeps_put h) (upd_ne q)
  hids := fun p hp => by
    obtain ⟨xs, e⟩ := r.hids p hp
    refine ⟨xs, ?_⟩
    rw [upd_ne fun (z : p = a) => by have := r.dis p hp; rw [z, h] at this; cases this]
    exact e
  dis := fun p hp => by rw [Sto.set_ne fun (z : p = a) => by have := r.dis p hp; rw [z, h] at this; cases this]; exact r.dis p hp
  tabs := by
    have q := r.cells a d h
    cases d with
    | lst vs =>
      obtain ⟨xs, e, _⟩ := q
      exact tabs_put r.tabs (fun ps z => by rw [e] at z; cases z) fun c q z => by rw [e] at z; cases z
    | obj C fs =>
      obtain ⟨dx, xs, e, _⟩ := q
      exact tabs_put r.tabs (fun ps z => by rw [e] at z; cases z) fun c q z => by rw [e] at z; cases z
    | dK kvs =>
      obtain ⟨xs, e, _⟩ := q
      exact tabs_put r.tabs (fun ps z => by rw [e] at z; cases z) fun c q z => by rw [e] at z; cases z
theorem Ext.put {a : Addr} {o : HO} {c d : Cell} (h : S a = some d) : Ext S H (S.set a c) (upd H a o) where
  keep := fun p u e sd k => by
    have ne : p ≠ a := fun z => by rw [z, h] at k; cases k
    exact ⟨by rw [upd_ne ne]; exact e, by rw [Sto.set_ne ne]; exact k⟩
  dom := fun p hp => by
    by_cases e : p = a
    · rw [e, upd_same]
      exact fun z => nomatch z
    · rw [upd_ne e]
      exact hp
/-- a cell ends: from now on nobody changes it -/
theorem keeps_del {a : Addr} : Keeps (Mset S hid) H (Mset (S.del a) hid) H := ⟨fun p u e sd n => ⟨e, fun z => n (z.imp (fun q => by
  by_cases hp : p = a
  · rw [hp, Sto.del_same] at q
    exact absurd rfl q
  · rw [Sto.del_ne hp] at q
    exact q) id)⟩⟩
theorem Rel.del (r : Rel K hid S H) (a : Addr) : Rel K hid (S.del a) H where
  cells := fun b d e => by
    by_cases q : b = a
    · rw [q, Sto.del_same] at e
      cases e
    · rw [Sto.del_ne q] at e
      exact (r.cells b d e).keep keeps_del rfl
  hids := r.hids
  tabs := r.tabs
  dis := fun p hp => by
    by_cases q : p = a
    · rw [q, Sto.del_same]
    · rw [Sto.del_ne q]
      exact r.dis p hp
theorem Ext.del (S : Sto) (H : Hp) (a : Addr) : Ext S H (S.del a) H where
  keep := fun p u e sd k => ⟨e, by
    by_cases hp : p = a
    · rw [hp, Sto.del_same]
    · rw [Sto.del_ne hp]
      exact k⟩
  dom := fun _ h => h
/-- a list that a comprehension fills stands apart -/
theorem keeps_hid {D : Addr} {o : HO} (h : H D = none) : Keeps (Mset S hid) H (Mset S (hid.add D)) (upd H D o) := ⟨fun p u e sd n => by
  have ne : p ≠ D := ne_of_none e h
  refine ⟨by rw [upd_ne ne]; exact e, fun z => n ?_⟩
  rcases z with z | z | z
  · exact .inl z
  · exact .inr z
  · exact absurd z ne⟩
theorem keeps_unhid {D : Addr} : Keeps (Mset S (hid.add D)) H (Mset S hid) H := ⟨fun p u e sd n => ⟨e, fun z => n (z.imp id .inl)⟩⟩
theorem keeps_acc {D : Addr} {o : HO} : Keeps (Mset S (hid.add D)) H (Mset S (hid.add D)) (upd H D o) := ⟨fun p u e sd n => ⟨by
  rw [upd_ne fun z => n (.inr (.inr z))]
  exact e, n⟩⟩
end
def Renv (K : PySem.W.Frag) (M : Addr → Prop) (H : Hp) (σ : Env) (σ' : L2.St) : Prop := σ.length = σ'.length ∧ ∀ (i : Nat) (v : Val), σ[i]? = some (some v) → ∃ x : V, σ'[i]? = some (some x) ∧ Rv K M H v x
theorem Renv.keep {K : PySem.W.Frag} {M M' : Addr → Prop} {H H' : Hp} {σ : Env} {σ' : L2.St} (k : Keeps M H M' H') (h : Renv K M H σ σ') : Renv K M' H' σ σ' := ⟨h.1, fun i v e => let ⟨x, h1, h2⟩ := h.2 i v e; ⟨x, h1, h2.keep k⟩⟩
theorem Renv.set {K : PySem.W.Frag} {M : Addr → Prop} {H : Hp} {σ : Env} {σ' : L2.St} {v : Val} {x : V} (h : Renv K M H σ σ') (i : Nat) (r : Rv K M H v x) : Renv K M H (σ.set i (some v)) (σ'.set i (some x)) := by
  refine ⟨by rw [List.length_set, List.length_set]; exact h.1, fun j u e => ?_⟩
  by_cases q : i = j
  · subst q
    have hl : i < σ.length := by
      have := (List.getElem?_eq_some_iff.mp e).1
      rwa [List.length_set] at this
    rw [List.getElem?_set_self hl] at e
    have e' : v = u := Option.some.inj (Option.some.inj e)
    subst e'
    exact ⟨x, by rw [List.getElem?_set_self (by rw [← h.1]; exact hl)], r⟩
  · rw [List.getElem?_set_ne q] at e
    obtain ⟨y, h1, h2⟩ := h.2 j u e
    exact ⟨y, by rw [List.getElem?_set_ne q]; exact h1, h2⟩
theorem Renv.unset {K : PySem.W.Frag} {M : Addr → Prop} {H : Hp} {σ : Env} {σ' : L2.St} (h : Renv K M H σ σ') (i : Nat) : Renv K M H (σ.set i none) (σ'.set i none) := by
  refine ⟨by rw [List.length_set, List.length_set]; exact h.1, fun j u e => ?_⟩
  by_cases q : i = j
  · subst q
    have hl : i < σ.length := by
      have := (List.getElem?_eq_some_iff.mp e).1
      rwa [List.length_set] at this
    rw [List.getElem?_set_self hl] at e
    cases e
  · rw [List.getElem?_set_ne q] at e
    obtain ⟨y, h1, h2⟩ := h.2 j u e
    exact ⟨y, by rw [List.getElem?_set_ne q]; exact h1, h2⟩
theorem Renv.wipe {K : PySem.W.Frag} {M : Addr → Prop} {H : Hp} {σ : Env} {σ' : L2.St} (h : Renv K M H σ σ') : ∀ own : List Nat, Renv K M H (Li.wipe σ own) (L2.wipe σ' own)
  | [] => h
  | i :: r => (Renv.wipe h r).unset i

/-! ### what is fixed while a def's body runs -/
structure SX where
  c : Cxt
  S0 : Sto
  H0 : Hp
  P : Hid → Prop
  /-- what is known of the frame's names -/
  ag : L2.St → Prop
  /-- the tables of code objects -/
  T : List NdefX.NTab
structure Wd (G : SX) (K : PySem.W.Frag) (σ : Env) (S : Sto) (hid : Hid) (σ' : L2.St) (H : Hp) : Prop where
  p : G.P hid
  ex : Ext G.S0 G.H0 S H
  rel : Rel K hid S H
  env : Renv K (Mset S hid) H σ σ'
  ag : G.ag σ'
  hT : hid.T = G.T
/-- nothing is known: a def's own body -/
class AgT (G : SX) : Prop where
  all : ∀ σ, G.ag σ
theorem Wd.step {G : SX} {K : PySem.W.Frag} {σ : Env} {S S' : Sto} {hid : Hid} {σ' : L2.St} {H H' : Hp} (w : Wd G K σ S hid σ' H) (e : Ext S H S' H') (r : Rel K hid S' H') : Wd G K σ S' hid σ' H' := ⟨w.p, w.ex.trans e, r, w.env.keep (e.keeps hid), w.ag, w.hT⟩
/-- a value handed on -/
def PoE (K : PySem.W.Frag) (hid : Hid) (S : Sto) (H : Hp) (Q : VK) : VQ := fun v S' => ∀ v' H', Ext S H S' H' → Rel K hid S' H' → Rv K (Mset S' hid) H' v v' → Q v' H'
def PoA (K : PySem.W.Frag) (hid : Hid) (S : Sto) (H : Hp) (Q : List V → Hp → Prop) : List Val → Sto → Prop := fun v S' => ∀ v' H', Ext S H S' H' → Rel K hid S' H' → Rvs K (Mset S' hid) H' v v' → Q v' H'
def PoB (K : PySem.W.Frag) (hid : Hid) (S : Sto) (H : Hp) (Q : Bool → Hp → Prop) : Bool → Sto → Prop := fun b S' => ∀ H', Ext S H S' H' → Rel K hid S' H' → Q b H'
def tEv (G : SX) (K : PySem.W.Frag) (e : E) : TE := fun σ' H Q => ∃ σ S hid, Wd G K σ S hid σ' H ∧ evE G.c e σ S (PoE K hid S H Q)
def tTv (G : SX) (K : PySem.W.Frag) (e : E) : TT := fun σ' H Q => ∃ σ S hid, Wd G K σ S hid σ' H ∧ evE G.c e σ S (tst (PoB K hid S H Q))
def tAv (G : SX) (K : PySem.W.Frag) (es : Es) : TA := fun σ' H Q => ∃ σ S hid, Wd G K σ S hid σ' H ∧ evEs G.c es σ S (PoA K hid S H Q)
theorem PE.wk {X : Cx} {e : Expr} {t t' : TE} (h : PE X e t) (w : ∀ σ H Q, t' σ H Q → t σ H Q) : PE X e t' := ⟨fun pins s σ H Q I q => h.run pins s σ H Q I (w _ _ _ q)⟩
theorem PT.wk {X : Cx} {e : Expr} {t t' : TT} (h : PT X e t) (w : ∀ σ H Q, t' σ H Q → t σ H Q) : PT X e t' := ⟨fun pins s σ H Q I q => h.run pins s σ H Q I (w _ _ _ q)⟩
theorem PW.wk {X : Cx} {e : Expr} {t t' : TT} (h : PW X e t) (w : ∀ σ H Q, t' σ H Q → t σ H Q) : PW X e t' := ⟨fun wh pins s σ H Q I q => h.run wh pins s σ H Q I (w _ _ _ q)⟩
theorem PA.wk {X : Cx} {e : List Expr} {t t' : TA} (h : PA X e t) (w : ∀ σ H Q, t' σ H Q → t σ H Q) : PA X e t' := ⟨fun pos pins s σ H Q I q => h.run pos pins s σ H Q I (w _ _ _ q)⟩
theorem PS.wk {X : Cx} {e : Stmt} {t t' : TS} (h : PS X e t) (w : ∀ D σ H, t' D σ H → t D σ H) : PS X e t' := ⟨fun pins s σ H D I q => h.run pins s σ H D I (w _ _ _ q)⟩
theorem PSs.wk {X : Cx} {e : List Stmt} {t t' : TS} (h : PSs X e t) (w : ∀ D σ H, t' D σ H → t D σ H) : PSs X e t' := ⟨fun pins s σ H D I q => h.run pins s σ H D I (w _ _ _ q)⟩
theorem PoE.here {K : PySem.W.Frag} {hid : Hid} {S : Sto} {H : Hp} {Q : VK} {v : Val} {x : V} (h : PoE K hid S H Q v S) (rel : Rel K hid S H) (r : Rv K (Mset S hid) H v x) : Q x H := h x H (Ext.refl S H) rel r
/-- a new plain thing handed on -/
theorem PoE.made {K : PySem.W.Frag} {hid : Hid} {S : Sto} {H : Hp} {Q : VK} {v : Val} {a : Addr} {o : HO} (h : PoE K hid S H Q v S) (rel : Rel K hid S H) (ha : H a = none) (r : Rv K (Mset S hid) (upd H a o) v (.ref a)) : Q (.ref a) (upd H a o) :=
  h _ _ (Ext.new S ha) (rel.new ha) r
theorem Rv.newT {K : PySem.W.Frag} {hid : Hid} {S : Sto} {H : Hp} {vs : List Val} {xs : List V} {a : Addr} (rel : Rel K hid S H) (ha : H a = none) (r : Rvs K (Mset S hid) H vs xs) : Rv K (Mset S hid) (upd H a (.tup xs)) (.tup vs) (.ref a) :=
  ⟨a, xs, rfl, .inl ⟨upd_same, fun z => z.elim (fun q => q (rel.free ha)) fun q => rel.nohid ha q⟩, r.keep (keeps_new ha)⟩
theorem Rv.newL {K : PySem.W.Frag} {hid : Hid} {S : Sto} {H : Hp} {vs : List Val} {xs : List V} {a : Addr} (rel : Rel K hid S H) (ha : H a = none) (r : Rvs K (Mset S hid) H vs xs) : Rv K (Mset S hid) (upd H a (.lst xs)) (.lst vs) (.ref a) :=
  ⟨a, xs, rfl, upd_same, fun z => z.elim (fun q => q (rel.free ha)) fun q => rel.nohid ha q, r.keep (keeps_new ha)⟩
/-- a list, plain or a cell, as the layer reads it -/
theorem asL_seq {K : PySem.W.Frag} {hid : Hid} {S : Sto} {H : Hp} {v : Val} {vs : List Val} {x : V} (rel : Rel K hid S H) (e : asL S v = some vs) (r : Rv K (Mset S hid) H v x) : ∃ p xs, x = .ref p ∧ H p = some (.lst xs) ∧ Rvs K (Mset S hid) H vs xs := by
  cases v with
  | lst us =>
    cases e
    obtain ⟨p, xs, ex, h1, _, h3⟩ := r
    exact ⟨p, xs, ex, h1, h3⟩
  | adr a =>
    have e2 : (match S a with
      | some (.lst vs) => some vs
      | _ => none) = some vs := e
    cases q : S a with
    | none =>
      rw [q] at e2
      cases e2
    | some c =>
      rw [q] at e2
      cases c with
      | lst us =>
        cases e2
        obtain ⟨xs, h1, h2⟩ := rel.cells a _ q
        exact ⟨a, xs, r, h1, h2⟩
      | _ => cases e2
  | _ => cases e
end Li
set_option Elab.async false
set_option linter.all false
set_option maxRecDepth 100000
set_option maxHeartbeats 2000000
/-! LiVal: operators, subscripts, built-in functions by values. -/
namespace Li
open PySem L2
theorem Val.asL_none_int {S : Sto} {i : Int} : asL S (.int i) = none := rfl
section
variable {X : Cx}
/-- two values in, one out -/
def r2 (K : PySem.W.Frag) (f : Sto → Val → Val → (Val → Prop) → Prop) : R2 := fun x y H Q => ∃ S hid v u, Rel K hid S H ∧ Rv K (Mset S hid) H v x ∧ Rv K (Mset S hid) H u y ∧ f S v u fun w => PoE K hid S H Q w S
theorem intQ_inv {v : Val} {Q : Int → Prop} (h : intQ v Q) : ∃ i, v = .int i ∧ Q i := by
  cases v <;> first
    | exact ⟨_, rfl, h⟩
    | exact h.elim
theorem adrQ_inv {v : Val} {Q : Addr → Prop} (h : adrQ v Q) : ∃ i, v = .adr i ∧ Q i := by
  cases v <;> first
    | exact ⟨_, rfl, h⟩
    | exact h.elim
theorem lstQ_inv {v : Val} {Q : List Val → Prop} (h : lstQ v Q) : ∃ i, v = .lst i ∧ Q i := by
  cases v <;> first
    | exact ⟨_, rfl, h⟩
    | exact h.elim
theorem optQ_inv {α : Type} {o : Option α} {Q : α → Prop} (h : optQ o Q) : ∃ x, o = some x ∧ Q x := by
  cases o
  · exact h.elim
  · exact ⟨_, rfl, h⟩
theorem celQ_inv {S : Sto} {a : Addr} {Q : List Val → Prop} (h : celQ S a Q) : ∃ vs, S a = some (.lst vs) ∧ Q vs := by
  unfold celQ at h
  split at h
  · rename_i vs e
    exact ⟨vs, e, h⟩
  · exact h.elim
theorem objQ_inv {S : Sto} {a : Addr} {Q : Addr → List (Str × Val) → Prop} (h : objQ S a Q) : ∃ C fs, S a = some (.obj C fs) ∧ Q C fs := by
  unfold objQ at h
  split at h
  · rename_i C fs e
    exact ⟨C, fs, e, h⟩
  · exact h.elim
theorem slotQ_inv {σ : Env} {i : Nat} {Q : Val → Prop} (h : slotQ σ i Q) : ∃ v, σ[i]? = some (some v) ∧ Q v := by
  unfold slotQ at h
  split at h
  · rename_i v e
    exact ⟨v, e, h⟩
  · exact h.elim
theorem gvalQ_inv {g : G} {Q : Val → Prop} (h : gvalQ g Q) : ∃ v, g = .val v ∧ Q v := by
  cases g <;> first
    | exact ⟨_, rfl, h⟩
    | exact h.elim
/-- plain tuples -/
theorem tup_keep {K : PySem.W.Frag} {hid : Hid} {S : Sto} {H : Hp} {vs us : List Val} {x : V} {xs : List V} {p : Addr} (r : Rv K (Mset S hid) H (.tup vs) x) (e : us = vs) : Rv K (Mset S hid) H (.tup us) x := by
  rw [e]
  exact r
theorem rv_tup {K : PySem.W.Frag} {M : Addr → Prop} {H : Hp} {vs : List Val} {x : V} (r : Rv K M H (.tup vs) x) : ∃ p xs, x = .ref p ∧ SqT K H p xs ∧ Rvs K M H vs xs := r.seqT
theorem Rvs.inj {K : PySem.W.Frag} {M : Addr → Prop} {H : Hp} : ∀ {vs : List Val} {xs : List V}, Rvs K M H vs xs → xs = [] → vs = []
  | [], _, _, _ => rfl
  | v :: r, _, ⟨x, y, e, _, _⟩, e2 => by rw [e] at e2; cases e2
theorem op_bin (op : Operator) : OpR X (binaryOp op) (r2 X.K fun S => binV S op) := by
  intro pins s σ H x y v u Q I rx ry ⟨S, hid, a, b, rel, r1, r2, h⟩
  have two : ∀ {C : Int → Int → Prop} {g : Int → Int → Int}, OpR X (binaryOp op) (rI C fun i j => .int (g i j)) → int2 C g (fun w => PoE X.K hid S H Q w S) a b → wpAny (model X.prog X.w) X.A (binaryOp op v u) (EP X pins σ Q) X.xe s := fun {C g} ho hh => by
    unfold int2 at hh
    split at hh
    · rename_i i j
      exact ho pins s σ H _ _ v u Q I rx ry ⟨i, j, r1, r2, hh.1, hh.2.here rel rfl⟩
    · exact hh.elim
  have h' : binV S op a b (fun w => PoE X.K hid S H Q w S) := h
  unfold binV at h'
  cases op with
  | Add =>
    have h2 : addV S (fun w => PoE X.K hid S H Q w S) a b := h'
    unfold addV at h2
    split at h2
    · rename_i i j
      exact op_add pins s σ H _ _ v u Q I rx ry ⟨i, j, r1, r2, h2.here rel rfl⟩
    · rename_i i j
      exact op_add_str pins s σ H _ _ v u Q I rx ry ⟨i, j, r1, r2, h2.1, h2.2.here rel rfl⟩
    · rename_i i j
      obtain ⟨p, xs, e1, q1, s1⟩ := r1.seqT
      obtain ⟨p2, xs2, e2, q2, s2⟩ := r2.seqT
      refine op_catA pins s σ H _ _ v u Q I rx ry ⟨p, p2, xs, xs2, e1, e2, q1, q2, by rw [← s1.length, ← s2.length]; exact h2.1, fun z => ?_, fun z1 z2 => ?_, fun z1 z2 q hq => ?_⟩
      · have e3 := Rvs.inj s1 z
        subst e3
        rw [← e2]
        exact h2.2.here rel r2
      · have e3 := Rvs.inj s2 z2
        subst e3
        rw [← e1]
        have := h2.2
        rw [List.append_nil] at this
        exact this.here rel r1
      · exact h2.2.made rel hq (Rv.newT rel hq (s1.append s2))
    · obtain ⟨vs, e1, h3⟩ := optQ_inv h2
      obtain ⟨us, e2, h4⟩ := optQ_inv h3
      obtain ⟨p, xs, ex, q1, s1⟩ := asL_seq rel e1 r1
      obtain ⟨p2, xs2, ex2, q2, s2⟩ := asL_seq rel e2 r2
      exact op_cat pins s σ H _ _ v u Q I rx ry ⟨p, p2, xs, xs2, ex, ex2, q1, q2, by rw [← s1.length, ← s2.length]; exact h4.1, fun q hq => h4.2.made rel hq (Rv.newL rel hq (s1.append s2))⟩
  | Sub => exact two (C := fun _ _ => True) (g := fun i j => i - j) (fun pins s σ H x y v u Q I rx ry ⟨i, j, e1, e2, _, q⟩ => op_sub pins s σ H x y v u Q I rx ry ⟨i, j, e1, e2, q⟩) h'
  | Mult =>
    have h2 : mulV S (fun w => PoE X.K hid S H Q w S) a b := h'
    unfold mulV at h2
    split at h2
    · rename_i i j
      exact op_mulX pins s σ H _ _ v u Q I rx ry ⟨i, j, r1, r2, h2.1, h2.2.here rel rfl⟩
    · rename_i vs k
      obtain ⟨p, xs, e1, q1, s1⟩ := r1.seqT
      obtain ⟨⟨n1, n2, n3, n4⟩, n5⟩ := h2
      have fl : ∀ n : Nat, Rvs X.K (Mset S hid) H (List.replicate n vs).flatten (List.replicate n xs).flatten := fun n => by
        induction n with
        | zero => exact rfl
        | succ n ih =>
          rw [List.replicate_succ, List.replicate_succ, List.flatten_cons, List.flatten_cons]
          exact s1.append ih
      exact op_repT pins s σ H _ _ v u Q I rx ry ⟨p, k, xs, e1, r2, q1, fun z => n1 (Rvs.inj s1 z), n2, n3, by rw [← s1.length]; exact n4, fun q hq => n5.made rel hq (Rv.newT rel hq (fl _))⟩
    · exact h2.elim
  | FloorDiv => exact two op_fdivW h'
  | Mod => exact two op_mod h'
  | Pow => exact two op_pow h'
  | LShift => exact two op_shl h'
  | RShift => exact two op_shr h'
  | BitAnd => exact two (C := fun _ _ => True) (g := fun i j => Builtin.bitAnd i j) (fun pins s σ H x y v u Q I rx ry ⟨i, j, e1, e2, _, q⟩ => op_and pins s σ H x y v u Q I rx ry ⟨i, j, e1, e2, q⟩) h'
  | _ => exact h'.elim
/-! ### == -/
mutual
theorem toPy0_dp {K : PySem.W.Frag} {M : Addr → Prop} {H : Hp} : ∀ {v : Val} {d : PyData} {x : V}, toPy0 v = some d → Rv K M H v x → Dp K H x d
  | .non, _, _, e, h => by
    cases e
    cases (show _ = V.non from h)
    exact .non
  | .bl b, _, _, e, h => by
    cases e
    cases (show _ = V.bl b from h)
    exact .bl b
  | .int b, _, _, e, h => by
    cases e
    cases (show _ = V.int b from h)
    exact .int b
  | .str b, _, _, e, h => by
    cases e
    cases (show _ = V.str b from h)
    exact .str b
  | .tup vs, _, _, e, h => by
    obtain ⟨p, xs, ex, q1, s1⟩ := h.seqT
    have e1 : (toPys0 vs).map PyData.tuple = some _ := e
    cases q : toPys0 vs with
    | none =>
      rw [q] at e1
      cases e1
    | some ds =>
      rw [q] at e1
      cases e1
      rw [ex]
      exact .tup q1 (toPys0_dp q s1)
  | .lst vs, _, _, e, h => by
    obtain ⟨p, xs, ex, q1, _, s1⟩ := h
    have e1 : (toPys0 vs).map PyData.list = some _ := e
    cases q : toPys0 vs with
    | none =>
      rw [q] at e1
      cases e1
    | some ds =>
      rw [q] at e1
      cases e1
      rw [ex]
      exact .lst (SqL.of q1) (toPys0_dp q s1)
  | .adr _, _, _, e, _ => by cases e
  | .scr _, _, _, e, _ => by cases e
  | .ins _ _ _, _, _, e, _ => by cases e
  | .dct _ _, _, _, e, _ => by cases e
  | .clo _ _, _, _, e, _ => by cases e
theorem toPys0_dp {K : PySem.W.Frag} {M : Addr → Prop} {H : Hp} : ∀ {v : List Val} {d : List PyData} {x : List V}, toPys0 v = some d → Rvs K M H v x → DpAll K H x d
  | [], _, _, e, h => by
    cases e
    cases (show _ = [] from h)
    exact .nil
  | v :: r, _, _, e, ⟨x, y, ex, h1, h2⟩ => by
    unfold toPys0 at e
    split at e
    · rename_i d ds e1 e2
      cases e
      rw [ex]
      exact .cons (toPy0_dp e1 h1) (toPys0_dp e2 h2)
    · cases e
end
theorem toPy_dp {K : PySem.W.Frag} {hid : Hid} {S : Sto} {H : Hp} {v : Val} {d : PyData} {x : V} (rel : Rel K hid S H) (e : toPy S v = some d) (h : Rv K (Mset S hid) H v x) : Dp K H x d := by
  cases v with
  | adr a =>
    have e2 : (match S a with
      | some (.lst vs) => (toPys0 vs).map PyData.list
      | _ => none) = some d := e
    cases q : S a with
    | none =>
      rw [q] at e2
      cases e2
    | some c =>
      rw [q] at e2
      cases c with
      | lst vs =>
        have e3 : (toPys0 vs).map PyData.list = some d := e2
        obtain ⟨xs, h1, h2⟩ := rel.cells a _ q
        cases q2 : toPys0 vs with
        | none =>
          rw [q2] at e3
          cases e3
        | some ds =>
          rw [q2] at e3
          cases e3
          rw [show x = V.ref a from h]
          exact .lst (SqL.of h1) (toPys0_dp q2 h2)
      | _ => cases e2
  | _ => exact toPy0_dp e h
theorem isNon_rv {K : PySem.W.Frag} {M : Addr → Prop} {H : Hp} {v : Val} {x : V} (h : Rv K M H v x) : isNon v = decide (x = V.non) := by
  cases v with
  | non => cases (show x = V.non from h); rfl
  | bl b => cases (show x = V.bl b from h); rfl
  | int b => cases (show x = V.int b from h); rfl
  | str b => cases (show x = V.str b from h); rfl
  | adr b => cases (show x = V.ref b from h); rfl
  | scr ns => obtain ⟨p, e, _⟩ := h; rw [e]; rfl
  | tup vs => obtain ⟨p, o, e, _⟩ := h; rw [e]; rfl
  | lst vs => obtain ⟨p, o, e, _⟩ := h; rw [e]; rfl
  | ins C ns vs => obtain ⟨p, dx, o, e, _⟩ := h; rw [e]; rfl
  | dct ks vs => obtain ⟨p, o, e, _⟩ := h; rw [e]; rfl
  | clo f F => rw [h.1]; rfl
theorem op_cmp (hu : X.A.units + 64 < cLine) (op : CmpOp) : OpR X (compareOp op) (r2 X.K fun S x y Q => cmpV S op x y fun k => Q (.bl k)) := by
  intro pins s σ H x y v u Q I rx ry ⟨S, hid, a, b, rel, r1, r2, h⟩
  have two : ∀ {g : Int → Int → Bool}, OpR X (compareOp op) (rI0 fun i j => .bl (g i j)) → cmpI g (fun w => PoE X.K hid S H Q (.bl w) S) a b → wpAny (model X.prog X.w) X.A (compareOp op v u) (EP X pins σ Q) X.xe s := fun {g} ho hh => by
    unfold cmpI at hh
    split at hh
    · rename_i i j
      exact ho pins s σ H _ _ v u Q I rx ry ⟨i, j, r1, r2, hh.here rel rfl⟩
    · exact hh.elim
  have h' : cmpV S op a b (fun w => PoE X.K hid S H Q (.bl w) S) := h
  unfold cmpV at h'
  cases op with
  | Lt => exact two op_lt h'
  | LtE => exact two op_le h'
  | Gt => exact two op_gt h'
  | GtE => exact two op_ge h'
  | Eq =>
    obtain ⟨d, e1, h2⟩ := optQ_inv h'
    obtain ⟨e, e2, h3⟩ := optQ_inv h2
    exact op_eqD hu pins s σ H _ _ v u Q I rx ry ⟨d, e, toPy_dp rel e1 r1, toPy_dp rel e2 r2, h3.1, h3.2.1, h3.2.2.here rel rfl⟩
  | NotEq =>
    obtain ⟨d, e1, h2⟩ := optQ_inv h'
    obtain ⟨e, e2, h3⟩ := optQ_inv h2
    exact op_neD hu pins s σ H _ _ v u Q I rx ry ⟨d, e, toPy_dp rel e1 r1, toPy_dp rel e2 r2, h3.1, h3.2.1, h3.2.2.here rel rfl⟩
  | Is =>
    obtain ⟨h1, h2⟩ := h'
    rw [isNon_rv r2] at h1
    refine op_isN pins s σ H _ _ v u Q I rx ry ⟨of_decide_eq_true h1, ?_⟩
    rw [← isNon_rv r1]
    exact h2.here rel rfl
  | IsNot =>
    obtain ⟨h1, h2⟩ := h'
    rw [isNon_rv r2] at h1
    refine op_notN pins s σ H _ _ v u Q I rx ry ⟨of_decide_eq_true h1, ?_⟩
    rw [← isNon_rv r1]
    exact h2.here rel rfl
  | _ => exact h'.elim
/-! ### a[i], a[i:j] -/
theorem ix_idx : IxR X (r2 X.K idxV) := by
  intro value slice pins s σ H x y v u Q I rx ry ⟨S, hid, a, b, rel, r1, r2, h0⟩ hs
  obtain ⟨i, eb, h⟩ := intQ_inv h0
  clear h0
  subst eb
  split at h
  · rename_i vs
    obtain ⟨w, e, h⟩ := optQ_inv h
    obtain ⟨p, xs, ex, q1, s1⟩ := r1.seqT
    obtain ⟨z, e2, rz⟩ := atI_get s1 e
    exact ix_tup value slice pins s σ H x y v u Q I rx ry ⟨p, xs, i, z, ex, r2, q1, e2, h.here rel rz⟩ hs
  · rename_i ns
    obtain ⟨w, e, h⟩ := optQ_inv h
    obtain ⟨p, ex, q1⟩ := Rv.seqS r1
    obtain ⟨z, e2, rz⟩ := atI_get (Rvs.ints (K := X.K) (M := Mset S hid) (H := H) ns) e
    exact ix_list value slice pins s σ H x y v u Q I rx ry ⟨p, _, i, z, ex, r2, q1, e2, h.here rel rz⟩ hs
  · obtain ⟨vs, e0, h⟩ := optQ_inv h
    obtain ⟨w, e, h⟩ := optQ_inv h
    obtain ⟨p, xs, ex, q1, s1⟩ := asL_seq rel e0 r1
    obtain ⟨z, e2, rz⟩ := atI_get s1 e
    exact ix_list value slice pins s σ H x y v u Q I rx ry ⟨p, xs, i, z, ex, r2, SqL.of q1, e2, h.here rel rz⟩ hs
def rSl (K : PySem.W.Frag) : V → Option Int → Option Int → Hp → VK → Prop := fun x lo hi H Q => ∃ S hid v, Rel K hid S H ∧ Rv K (Mset S hid) H v x ∧ slcV S v lo hi fun w => PoE K hid S H Q w S
theorem cut_whole {α : Type} {xs : List α} {lo hi : Option Int} (h : HT.sIx xs.length 0 lo = 0 ∧ HT.sIx xs.length xs.length hi = xs.length) : Li.cut xs lo hi = xs := by
  unfold Li.cut
  rw [h.1, h.2, List.drop_zero, Nat.sub_zero, List.take_length]
theorem sl_slc : SlR X (rSl X.K) := by
  intro pins s σ H x v vl vu lo hi sl Q I rx hs pl pu ⟨S, hid, a, rel, r1, h⟩
  have h' : slcV S a lo hi (fun w => PoE X.K hid S H Q w S) := h
  unfold slcV at h'
  split at h'
  · rename_i vs
    obtain ⟨p, xs, ex, q1, s1⟩ := r1.seqT
    refine sl_tupA pins s σ H x v vl vu lo hi sl Q I rx hs pl pu ⟨p, xs, ex, q1, fun z => ?_, fun z q hq => ?_⟩
    · rw [← s1.length] at z
      rw [cut_whole z] at h'
      rw [← ex]
      exact h'.here rel r1
    · exact h'.made rel hq (Rv.newT rel hq (s1.cut lo hi))
  · rename_i ns
    obtain ⟨p, ex, q1⟩ := Rv.seqS r1
    exact sl_list pins s σ H x v vl vu lo hi sl Q I rx hs pl pu ⟨p, _, ex, q1, fun q hq => h'.made rel hq (Rv.newL rel hq ((Rvs.ints ns).cut lo hi))⟩
  · obtain ⟨vs, e0, h'⟩ := optQ_inv h'
    obtain ⟨p, xs, ex, q1, s1⟩ := asL_seq rel e0 r1
    exact sl_list pins s σ H x v vl vu lo hi sl Q I rx hs pl pu ⟨p, xs, ex, SqL.of q1, fun q hq => h'.made rel hq (Rv.newL rel hq (s1.cut lo hi))⟩
/-! ### truth -/
theorem isEmpty_rvs {K : PySem.W.Frag} {M : Addr → Prop} {H : Hp} {vs : List Val} {xs : List V} (h : Rvs K M H vs xs) : vs.isEmpty = xs.isEmpty := by
  have e := h.length
  cases vs <;> cases xs <;> first
    | rfl
    | cases e
theorem truV_ok {K : PySem.W.Frag} {hid : Hid} {S : Sto} {H : Hp} {v : Val} {x : V} {b : Bool} (rel : Rel K hid S H) (r : Rv K (Mset S hid) H v x) (e : truV S v = some b) : TruV K x H b := by
  cases v with
  | non => cases (show x = V.non from r); exact (Option.some.inj e).symm
  | bl c => cases (show x = V.bl c from r); exact (Option.some.inj e).symm
  | int i => cases (show x = V.int i from r); exact (Option.some.inj e).symm
  | str z =>
    cases (show x = V.str z from r)
    have e1 : (if z.length ≤ sizeLine then some ((z.length : Int) != 0) else none) = some b := e
    by_cases hz : z.length ≤ sizeLine
    · rw [if_pos hz] at e1
      exact ⟨hz, (Option.some.inj e1).symm⟩
    · rw [if_neg hz] at e1
      cases e1
  | tup vs =>
    obtain ⟨p, xs, ex, q1, s1⟩ := r.seqT
    rw [ex]
    refine .inr (.inl ⟨xs, q1, ?_⟩)
    rw [← isEmpty_rvs s1]
    exact (Option.some.inj e).symm
  | lst vs =>
    obtain ⟨p, xs, ex, q1, _, s1⟩ := r
    rw [ex]
    refine .inl ⟨xs, SqL.of q1, ?_⟩
    rw [← isEmpty_rvs s1]
    exact (Option.some.inj e).symm
  | adr a =>
    have e2 : (match S a with
      | some (.lst vs) => some (!vs.isEmpty)
      | _ => none) = some b := e
    cases q : S a with
    | none =>
      rw [q] at e2
      cases e2
    | some c =>
      rw [q] at e2
      cases c with
      | lst vs =>
        obtain ⟨xs, h1, h2⟩ := rel.cells a _ q
        rw [show x = V.ref a from r]
        refine .inl ⟨xs, SqL.of h1, ?_⟩
        rw [← isEmpty_rvs h2]
        exact (Option.some.inj e2).symm
      | _ => cases e2
  | _ => cases e
/-! ### built-in functions -/
def rF (K : PySem.W.Frag) (f : Sto → List Val → (Val → Prop) → Prop) : List V → Hp → VK → Prop := fun xs H Q => ∃ S hid vs, Rel K hid S H ∧ Rvs K (Mset S hid) H vs xs ∧ f S vs fun w => PoE K hid S H Q w S
theorem Rvs.one {K : PySem.W.Frag} {M : Addr → Prop} {H : Hp} {v : Val} {xs : List V} (h : Rvs K M H [v] xs) : ∃ x, xs = [x] ∧ Rv K M H v x := by
  obtain ⟨x, y, e, h1, h2⟩ := h
  cases (show y = [] from h2)
  exact ⟨x, e, h1⟩
theorem Rvs.two {K : PySem.W.Frag} {M : Addr → Prop} {H : Hp} {v u : Val} {xs : List V} (h : Rvs K M H [v, u] xs) : ∃ x y, xs = [x, y] ∧ Rv K M H v x ∧ Rv K M H u y := by
  obtain ⟨x, y, e, h1, h2⟩ := h
  obtain ⟨z, e2, h3⟩ := h2.one
  exact ⟨x, z, by rw [e, e2], h1, h3⟩
theorem lenV_ok {K : PySem.W.Frag} {hid : Hid} {S : Sto} {H : Hp} {v : Val} {x : V} {n : Nat} (rel : Rel K hid S H) (r : Rv K (Mset S hid) H v x) (e : lenV S v = some n) : LenV K x H n := by
  have gen : (asL S v).map (·.length) = some n → LenV K x H n := fun e => by
    cases q : asL S v with
    | none =>
      rw [q] at e
      cases e
    | some vs =>
      rw [q] at e
      have en : vs.length = n := Option.some.inj e
      obtain ⟨p, xs, ex, q1, s1⟩ := asL_seq rel q r
      rw [ex]
      exact .inl ⟨xs, SqL.of q1, by rw [← en]; exact s1.length⟩
  cases v with
  | str z =>
    cases (show x = V.str z from r)
    have e1 : (if z.length ≤ sizeLine then some z.length else none) = some n := e
    by_cases hz : z.length ≤ sizeLine
    · rw [if_pos hz] at e1
      exact ⟨hz, (Option.some.inj e1).symm⟩
    · rw [if_neg hz] at e1
      cases e1
  | tup vs =>
    obtain ⟨p, xs, ex, q1, s1⟩ := r.seqT
    rw [ex]
    have en : vs.length = n := Option.some.inj e
    exact .inr ⟨xs, q1, by rw [← en]; exact s1.length⟩
  | scr ns =>
    obtain ⟨p, ex, q1⟩ := Rv.seqS r
    rw [ex]
    have en : ns.length = n := Option.some.inj e
    exact .inl ⟨_, q1, by rw [← en, List.length_map]⟩
  | lst vs => exact gen e
  | adr a => exact gen e
  | _ => cases e
end
end Li
set_option Elab.async false
set_option linter.all false
set_option maxRecDepth 100000
set_option maxHeartbeats 2000000
/-! LiBf: built-in functions, methods of lists, isinstance, what the names of the module are. -/
namespace Li
open PySem L2
section
variable {X : Cx}
def bfCall : Bf → Value
  | .len => .builtin "len"
  | .abs => .builtin "abs"
  | .int => .type "int"
  | .str => .type "str"
  | .repr => .builtin "repr"
  | .tuple => .type "tuple"
  | .list => .type "list"
  | .sum => .builtin "sum"
  | .min => .builtin "min"
  | .max => .builtin "max"
  | .all => .builtin "all"
  | .any => .builtin "any"
  | .sorted => .builtin "sorted"
  | .isi _ => .none
theorem ints_of {K : PySem.W.Frag} {hid : Hid} {S : Sto} {H : Hp} {v : Val} {x : V} {ns : List Int} (rel : Rel K hid S H) (r : Rv K (Mset S hid) H v x) (e : (asL S v).bind asInts = some ns) : ∃ p, x = .ref p ∧ SqL K H p (ns.map V.int) := by
  cases q : asL S v with
  | none =>
    rw [q] at e
    cases e
  | some vs =>
    rw [q] at e
    obtain ⟨p, xs, ex, q1, s1⟩ := asL_seq rel q r
    have e2 := s1.ofInts (show asInts vs = some ns from e)
    rw [e2] at q1
    exact ⟨p, ex, SqL.of q1⟩
theorem bools_of {K : PySem.W.Frag} {hid : Hid} {S : Sto} {H : Hp} {v : Val} {x : V} {ns : List Bool} (rel : Rel K hid S H) (r : Rv K (Mset S hid) H v x) (e : (asL S v).bind asBools = some ns) : ∃ p, x = .ref p ∧ SqL K H p (ns.map V.bl) := by
  cases q : asL S v with
  | none =>
    rw [q] at e
    cases e
  | some vs =>
    rw [q] at e
    obtain ⟨p, xs, ex, q1, s1⟩ := asL_seq rel q r
    have e2 := s1.ofBools (show asBools vs = some ns from e)
    rw [e2] at q1
    exact ⟨p, ex, SqL.of q1⟩
theorem bf_call (hc : X.calm = true) (D : Nat → G) (f : Bf) (hf : ∀ t, f ≠ .isi t) : CallR X (bfCall f) (rF X.K fun S vs Q => bfV D f vs S Q) := by
  intro pins s σ H xs us Q I r h
  obtain ⟨S, hid, vs, rel, rv, h⟩ := h
  have h' : bfV D f vs S (fun w => PoE X.K hid S H Q w S) := h
  clear h
  unfold bfV at h'
  split at h'
  · rename_i x
    obtain ⟨z, e, rz⟩ := rv.one
    obtain ⟨n, en, h'⟩ := optQ_inv h'
    exact call_len pins s σ H xs us Q I r ⟨z, n, e, lenV_ok rel rz en, h'.here rel rfl⟩
  · rename_i x
    obtain ⟨z, e, rz⟩ := rv.one
    obtain ⟨i, ei, h'⟩ := intQ_inv h'
    subst ei
    exact call_abs pins s σ H xs us Q I r ⟨i, by rw [e, show z = V.int i from rz], h'.here rel rfl⟩
  · rename_i i
    obtain ⟨z, e, rz⟩ := rv.one
    exact call_int1 pins s σ H xs us Q I r (.inl ⟨i, by rw [e, show z = V.int i from rz], h'.here rel rfl⟩)
  · rename_i i
    obtain ⟨z, e, rz⟩ := rv.one
    exact call_int1 pins s σ H xs us Q I r (.inr ⟨i, by rw [e, show z = V.bl i from rz], h'.here rel rfl⟩)
  · rename_i us'
    obtain ⟨z, e, rz⟩ := rv.one
    obtain ⟨p, ys, ex, q1, s1⟩ := rz.seqT
    refine call_tuple_of pins s σ H xs us Q I r ⟨p, ys, by rw [e, ex], .inr ⟨q1, ?_⟩⟩
    rw [← ex]
    exact h'.here rel rz
  · rename_i x _
    obtain ⟨z, e, rz⟩ := rv.one
    obtain ⟨vs', e0, h'⟩ := optQ_inv h'
    obtain ⟨p, ys, ex, q1, s1⟩ := asL_seq rel e0 rz
    exact call_tuple_of pins s σ H xs us Q I r ⟨p, ys, by rw [e, ex], .inl ⟨SqL.of q1, fun q hq => h'.made rel hq (Rv.newT rel hq s1)⟩⟩
  · rename_i us'
    obtain ⟨z, e, rz⟩ := rv.one
    obtain ⟨p, ys, ex, q1, s1⟩ := rz.seqT
    exact call_list_of pins s σ H xs us Q I r ⟨p, ys, by rw [e, ex], .inr q1, fun q hq => h'.made rel hq (Rv.newL rel hq s1)⟩
  · rename_i ns
    obtain ⟨z, e, rz⟩ := rv.one
    obtain ⟨p, ex, q1⟩ := Rv.seqS rz
    exact call_list_of pins s σ H xs us Q I r ⟨p, _, by rw [e, ex], .inl q1, fun q hq => h'.made rel hq (Rv.newL rel hq (Rvs.ints ns))⟩
  · rename_i x _ _
    obtain ⟨z, e, rz⟩ := rv.one
    obtain ⟨vs', e0, h'⟩ := optQ_inv h'
    obtain ⟨p, ys, ex, q1, s1⟩ := asL_seq rel e0 rz
    exact call_list_of pins s σ H xs us Q I r ⟨p, ys, by rw [e, ex], .inl (SqL.of q1), fun q hq => h'.made rel hq (Rv.newL rel hq s1)⟩
  · rename_i x
    obtain ⟨z, e, rz⟩ := rv.one
    obtain ⟨ns, e0, h'⟩ := optQ_inv h'
    obtain ⟨p, ex, q1⟩ := ints_of rel rz e0
    exact cr_sum hc pins s σ H xs us Q I r ⟨p, ns, by rw [e, ex], q1, h'.here rel rfl⟩
  · rename_i x y
    obtain ⟨z, w, e, rz, rw'⟩ := rv.two
    obtain ⟨i, ei, h'⟩ := intQ_inv h'
    obtain ⟨j, ej, h'⟩ := intQ_inv h'
    subst ei ej
    exact call_min2 hc pins s σ H xs us Q I r ⟨i, j, by rw [e, show z = V.int i from rz, show w = V.int j from rw'], h'.here rel rfl⟩
  · rename_i x y
    obtain ⟨z, w, e, rz, rw'⟩ := rv.two
    obtain ⟨i, ei, h'⟩ := intQ_inv h'
    obtain ⟨j, ej, h'⟩ := intQ_inv h'
    subst ei ej
    exact call_max2 hc pins s σ H xs us Q I r ⟨i, j, by rw [e, show z = V.int i from rz, show w = V.int j from rw'], h'.here rel rfl⟩
  · rename_i x
    obtain ⟨z, e, rz⟩ := rv.one
    obtain ⟨ns, e0, h'⟩ := optQ_inv h'
    obtain ⟨p, ex, q1⟩ := ints_of rel rz e0
    exact cr_min hc pins s σ H xs us Q I r ⟨p, ns, by rw [e, ex], q1, h'.1, fun m h1 h2 => (h'.2 m h1 h2).here rel rfl⟩
  · rename_i x
    obtain ⟨z, e, rz⟩ := rv.one
    obtain ⟨ns, e0, h'⟩ := optQ_inv h'
    obtain ⟨p, ex, q1⟩ := bools_of rel rz e0
    exact cr_all hc pins s σ H xs us Q I r ⟨p, ns, by rw [e, ex], q1, h'.here rel rfl⟩
  · rename_i x
    obtain ⟨z, e, rz⟩ := rv.one
    obtain ⟨ns, e0, h'⟩ := optQ_inv h'
    obtain ⟨p, ex, q1⟩ := bools_of rel rz e0
    exact cr_any hc pins s σ H xs us Q I r ⟨p, ns, by rw [e, ex], q1, h'.here rel rfl⟩
  · rename_i t x
    exact absurd rfl (hf t)
  · exact h'.elim
/-! ### classes -/
structure ClsOk (K : PySem.W.Frag) (C : Addr) : Prop where
  cl : Cls K C
  ha : PySem.W.findIn K (.ref C) "__class__" = some (some (.builtin "object.__class__"))
  hn : PySem.W.specialIn K (.builtin "object.__class__") "__get__" = some (some (.builtin "getset_descriptor.__get__"))
  htk : PySem.W.takesIn K (.builtin "object.__class__") = some true
  hm : PySem.W.mroIn K C (.type "object") = some true
/-! ### the names of the module -/
/-- a plain promise, over the abstract heap -/
def RExc (K : PySem.W.Frag) (M : Addr → Prop) (H : Hp) (e : Exc) (cls : Value) (d : Option Addr) : Prop :=
  cls = .ref e.C ∧ ((e.fs = [] ∧ d = none) ∨ ∃ dx xs, d = some dx ∧ H dx = some (.xd ((e.fs.map (·.1)).zip xs)) ∧ ¬ M dx ∧ Rvs K M H (e.fs.map (·.2)) xs)
def toSp (K : PySem.W.Frag) (T : List NdefX.NTab) (n : Nat) (sp : ISp) : Sp := fun vs' H Q E => ∃ vs S hid, hid.T = T ∧ vs.length = n ∧ Rvs K (Mset S hid) H vs vs' ∧ Rel K hid S H ∧
  sp.run vs S (PoE K hid S H Q) fun ex S' => ∀ cls d H', Ext S H S' H' → Rel K hid S' H' → RExc K (Mset S' hid) H' ex cls d → E cls d H'
/-- the fixed things of a law's run -/
structure Mo where
  P : Program
  w : World
  K : PySem.W.Frag
  mg : Str → Option Value
  base : Heap
  T : List NdefX.NTab
def GOk (m : Mo) (lvl : Nat) (x : Str) : G → Prop
  | .none => True
  | .val v => ∃ u y, m.mg x = some u ∧ RelV y u ∧ Rv m.K (fun _ => True) (fun _ => none) v y
  | .fn sp n dfl => ∃ f fd ps k, k ≤ lvl ∧ ps.length = n ∧ FnOk m.P m.w m.K m.mg m.base (CX m.P m.w) k f fd ps (toSp m.K m.T n sp) ∧ m.mg x = some (.ref f) ∧ PySem.W.keepIn m.K (.ref f) = true ∧
      ∀ dn, dn ≤ dfl.length → ∃ ds dvs, Binds m.K fd ps ds ∧ Vals dvs ds ∧ Rvs m.K (fun _ => True) (fun _ => none) (dfl.drop (dfl.length - dn)) dvs
  | .fnk sp n np ks => ∃ f fd ps k, k ≤ lvl ∧ ps.length = n ∧ FnOk m.P m.w m.K m.mg m.base (CX m.P m.w) k f fd ps (toSp m.K m.T n sp) ∧ m.mg x = some (.ref f) ∧ PySem.W.keepIn m.K (.ref f) = true ∧ KBn m.K fd ps np ks (fun us ws => us ++ ws) (fun vs zs => vs ++ zs)
  | .cls C fz sp n dfl => ∃ f fd ps k, k + 1 ≤ lvl ∧ ps.length = n ∧ Mk m.K C f ∧ FnOk m.P m.w m.K m.mg m.base (CX m.P m.w) k f fd ps (toSp m.K m.T n sp) ∧ m.mg x = some (.ref C) ∧ ClsOk m.K C ∧
      ∀ dn, dn ≤ dfl.length → ∃ ds dvs, Binds m.K fd ps ds ∧ Vals dvs ds ∧ Rvs m.K (fun _ => True) (fun _ => none) (dfl.drop (dfl.length - dn)) dvs
def moOf (X : Cx) (T : List NdefX.NTab) : Mo := ⟨X.prog, X.w, X.K, X.mg, X.base, T⟩
/-! ### isinstance -/
def tyN : Ty → Option String
  | .int => some "int"
  | .bool => some "bool"
  | .str => some "str"
  | .tup => some "tuple"
  | .lst => some "list"
  | .cls _ => none
theorem kitOne_self {K : PySem.W.Frag} {t : Value} : PySem.W.kitOne K t t = some true := by
  unfold PySem.W.kitOne
  rw [if_pos (by simp)]
theorem tup_ty {K : PySem.W.Frag} {M : Addr → Prop} {H : Hp} {vs : List Val} {x : V} (r : Rv K M H (.tup vs) x) : TyX K H x (.type "tuple") := by
  obtain ⟨p, xs, ex, h1, _⟩ := r
  rw [ex]
  rcases h1 with h1 | h1
  · exact .base (.tup h1.1)
  · rcases h1 with (h1 | ⟨o, h1⟩) | ⟨o, its, n, h1, h2, _⟩
    · cases h1
    · cases h1
    · exact .kTuple h1 h2
theorem lst_ty {K : PySem.W.Frag} {M : Addr → Prop} {H : Hp} {vs : List Val} {x : V} (r : Rv K M H (.lst vs) x) : TyX K H x (.type "list") := by
  obtain ⟨p, xs, ex, h1, _⟩ := r
  rw [ex]
  exact .base (.lst h1)
/-- isinstance by a built-in type -/
theorem isi_ty {D : Nat → G} {hid : Hid} {S : Sto} {H : Hp} {v : Val} {x : V} {t : Ty} {T : String} {b : Bool} (eT : tyN t = some T) (e : isiV D S t v = some b) (r : Rv X.K (Mset S hid) H v x) : ∃ u, TyX X.K H x u ∧ PySem.W.kitOne X.K u (.type T) = some b := by
  have e : isiT t v = some b := by
    cases t <;> first
      | exact e
      | cases eT
  cases t <;> cases eT <;> cases v <;> cases e <;> first
    | (cases (show x = V.int _ from r); exact ⟨_, .base (.int _), kit_ty (by decide +kernel)⟩)
    | (cases (show x = V.bl _ from r); exact ⟨_, .base (.bl _), kit_ty (by decide +kernel)⟩)
    | (cases (show x = V.str _ from r); exact ⟨_, .base (.str _), kit_ty (by decide +kernel)⟩)
    | (cases (show x = V.non from r); exact ⟨_, .base .non, kit_ty (by decide +kernel)⟩)
    | exact ⟨_, tup_ty r, kit_ty (by decide +kernel)⟩
    | exact ⟨_, lst_ty r, kit_ty (by decide +kernel)⟩
/-- isinstance by a class of the program -/
theorem isi_cls {T : List NdefX.NTab} {D : Nat → G} {nm : Nat → Str} {lvl : Nat} {hid : Hid} {S : Sto} {H : Hp} {v : Val} {x : V} {g : Nat} {b : Bool} (rel : Rel X.K hid S H) (ok : GOk (moOf X T) lvl (nm g) (D g)) (e : isiV D S (.cls g) v = some b) (r : Rv X.K (Mset S hid) H v x) :
    ∃ u C, X.mg (nm g) = some (.ref C) ∧ TyX X.K H x u ∧ PySem.W.kitOne X.K u (.ref C) = some b := by
  have e : isiC (D g) S v = some b := e
  unfold isiC at e
  cases q : D g with
  | cls C fz sp n dfl =>
    rw [q] at e ok
    cases q2 : insA S v with
    | none =>
      rw [q2] at e
      cases e
    | some C' =>
      rw [q2] at e
      have e2 : (if C' = C then some true else none) = some b := e
      by_cases hC : C' = C
      · rw [if_pos hC] at e2
        cases e2
        subst hC
        obtain ⟨f, fd, ps, k, _, _, _, _, hm, co, _⟩ := ok
        cases v with
        | ins C2 ns vs =>
          cases q2
          obtain ⟨p, dx, xs, ex, h1, _⟩ := r
          rw [ex]
          exact ⟨_, _, hm, .base (.ins h1 co.cl co.ha co.hn co.htk co.hm), kitOne_self⟩
        | adr a =>
          have q2 : (match S a with
            | some (.obj C _) => some C
            | _ => none) = some C' := q2
          cases q3 : S a with
          | none =>
            rw [q3] at q2
            cases q2
          | some c =>
            rw [q3] at q2
            cases c with
            | obj C2 fs =>
              cases q2
              obtain ⟨dx, xs, h1, _⟩ := rel.cells a _ q3
              rw [show x = V.ref a from r]
              exact ⟨_, _, hm, .base (.ins h1 co.cl co.ha co.hn co.htk co.hm), kitOne_self⟩
            | _ => cases q2
        | _ => cases q2
      · rw [if_neg hC] at e2
        cases e2
  | _ =>
    rw [q] at e
    cases e
end
end Li
set_option Elab.async false
set_option linter.all false
set_option maxRecDepth 100000
set_option maxHeartbeats 2000000
/-! LiExp: expressions, one rule each. -/
namespace Li
open PySem L2
def SX.EX (G : SX) (K : PySem.W.Frag) : XK := fun cls d H' => ∃ ex S' hid, G.P hid ∧ Ext G.S0 G.H0 S' H' ∧ Rel K hid S' H' ∧ RExc K (Mset S' hid) H' ex cls d ∧ G.c.er ex S'
structure Okx (G : SX) (lvl : Nat) (nm : Nat → Str) (X : Cx) : Prop where
  nd : X.N.Nodup
  calm : X.calm = true
  room : Room lvl X.A
  gok : ∀ g, GOk (moOf X G.T) lvl (nm g) (G.c.D g)
  pas : Passes (CX X.prog X.w) X (G.EX X.K)
  att : ∀ C f, G.c.A C f → Cls X.K C ∧ NoAttr X.K C f
theorem PoE.after {K : PySem.W.Frag} {hid : Hid} {S S2 S' : Sto} {H H2 : Hp} {Q : VK} {v : Val} (e : Ext S H S2 H2) (h : PoE K hid S H Q v S') : PoE K hid S2 H2 Q v S' := fun v' H' e' => h v' H' (e.trans e')
theorem PoB.after {K : PySem.W.Frag} {hid : Hid} {S S2 S' : Sto} {H H2 : Hp} {Q : Bool → Hp → Prop} {v : Bool} (e : Ext S H S2 H2) (h : PoB K hid S H Q v S') : PoB K hid S2 H2 Q v S' := fun H' e' => h H' (e.trans e')
section
variable {X : Cx} {G : SX} {lvl : Nat} {nm : Nat → Str} {σ : Env} {S : Sto} {hid : Hid} {σ' : L2.St} {H : Hp} {K : PySem.W.Frag}
theorem tEv.mono {e : E} {Q Q' : VK} (hQ : ∀ x H, Q x H → Q' x H) (h : tEv G K e σ' H Q) : tEv G K e σ' H Q' := by
  obtain ⟨σ, S, hid, w, h⟩ := h
  exact ⟨σ, S, hid, w, evE_mono e (fun v S' z v' H' a b c => hQ _ _ (z v' H' a b c)) h⟩
theorem tTv.mono {e : E} {Q Q' : Bool → Hp → Prop} (hQ : ∀ x H, Q x H → Q' x H) (h : tTv G K e σ' H Q) : tTv G K e σ' H Q' := by
  obtain ⟨σ, S, hid, w, h⟩ := h
  exact ⟨σ, S, hid, w, evE_mono e (fun v S' z => tst_mono (fun b S'' z H' a c => hQ _ _ (z H' a c)) z) h⟩
theorem tAv.mono {e : Es} {Q Q' : List V → Hp → Prop} (hQ : ∀ x H, Q x H → Q' x H) (h : tAv G K e σ' H Q) : tAv G K e σ' H Q' := by
  obtain ⟨σ, S, hid, w, h⟩ := h
  exact ⟨σ, S, hid, w, evEs_mono e (fun v S' z v' H' a b c => hQ _ _ (z v' H' a b c)) h⟩
/-- one value, and what stands behind it -/
theorem t1 {a : E} {R : Val → Sto → Prop} (w : Wd G K σ S hid σ' H) (h : evE G.c a σ S R) : tEv G K a σ' H fun x' H1 => ∃ S1 x, Ext S H S1 H1 ∧ Wd G K σ S1 hid σ' H1 ∧ Rv K (Mset S1 hid) H1 x x' ∧ R x S1 :=
  ⟨σ, S, hid, w, evE_mono a (fun v S' z v' H' e r q => ⟨S', v, e, w.step e r, q, z⟩) h⟩
theorem tT {a : E} {R : Bool → Sto → Prop} (w : Wd G K σ S hid σ' H) (h : evE G.c a σ S (tst R)) : tTv G K a σ' H fun b H1 => ∃ S1, Ext S H S1 H1 ∧ Wd G K σ S1 hid σ' H1 ∧ R b S1 :=
  ⟨σ, S, hid, w, evE_mono a (fun v S' z => tst_mono (fun b S'' z H' e r => ⟨S'', e, w.step e r, z⟩) z) h⟩
theorem tA {a : Es} {R : List Val → Sto → Prop} (w : Wd G K σ S hid σ' H) (h : evEs G.c a σ S R) : tAv G K a σ' H fun x' H1 => ∃ S1 x, Ext S H S1 H1 ∧ Wd G K σ S1 hid σ' H1 ∧ Rvs K (Mset S1 hid) H1 x x' ∧ R x S1 :=
  ⟨σ, S, hid, w, evEs_mono a (fun v S' z v' H' e r q => ⟨S', v, e, w.step e r, q, z⟩) h⟩
theorem t2 {a b : E} {R : Val → Val → Sto → Prop} (w : Wd G K σ S hid σ' H) (h : evE G.c a σ S fun x S1 => evE G.c b σ S1 fun y S2 => R x y S2) :
    tEv G K a σ' H fun x' H1 => tEv G K b σ' H1 fun y' H2 => ∃ S2 x y, Ext S H S2 H2 ∧ Wd G K σ S2 hid σ' H2 ∧ Rv K (Mset S2 hid) H2 x x' ∧ Rv K (Mset S2 hid) H2 y y' ∧ R x y S2 :=
  (t1 w h).mono fun x' H1 ⟨S1, x, e1, w1, r1, q1⟩ => (t1 w1 q1).mono fun y' H2 ⟨S2, y, e2, w2, r2, q2⟩ => ⟨S2, x, y, e1.trans e2, w2, r1.keep (e2.keeps hid), r2, q2⟩
theorem sE_var {i : Nat} {x : Str} {pos : Pos} (hN : X.N[i]? = some x) (hv : Vis X.env.scope x) (hd : (x == ("__debug__" : Str)) = false) (hcd : (x == ("__classdict__" : Str)) = false) : PE X (.Name x pos) (tEv G X.K (.var i)) :=
  PE.wk (pe_var hN hv hd hcd) fun σ' H Q ⟨σ, S, hid, w, h⟩ => by
    obtain ⟨v, e, h⟩ := slotQ_inv h
    obtain ⟨x', e', r⟩ := w.env.2 i v e
    exact ⟨x', e', h.here w.rel r⟩
theorem sE_int {i : Int} {j : Nat} {pos : Pos} : PE X (.Constant (.int i) j pos) (tEv G X.K (.lit (.int i))) := PE.wk pe_int fun σ' H Q ⟨σ, S, hid, w, h⟩ => PoE.here h w.rel rfl
theorem sE_bl {i : Bool} {j : Nat} {pos : Pos} : PE X (.Constant (.bool i) j pos) (tEv G X.K (.lit (.bl i))) := PE.wk pe_bl fun σ' H Q ⟨σ, S, hid, w, h⟩ => PoE.here h w.rel rfl
theorem sE_str {i : Str} {j : Nat} {pos : Pos} : PE X (.Constant (.str i) j pos) (tEv G X.K (.lit (.str i))) := PE.wk pe_str fun σ' H Q ⟨σ, S, hid, w, h⟩ => PoE.here h w.rel rfl
theorem sE_non {j : Nat} {pos : Pos} : PE X (.Constant .none j pos) (tEv G X.K (.lit .non)) := PE.wk pe_non fun σ' H Q ⟨σ, S, hid, w, h⟩ => PoE.here h w.rel rfl
theorem sE_glob (ok : Okx G lvl nm X) {g : Nat} {pos : Pos} (hg : Gl X (nm g)) (hd : (nm g == ("__debug__" : Str)) = false) : PE X (.Name (nm g) pos) (tEv G X.K (.glob g)) := by
  refine ⟨fun pins s σ' H Q I ⟨σ, S, hid, w, h⟩ => ?_⟩
  obtain ⟨v, e, h⟩ := gvalQ_inv h
  have go := ok.gok g
  rw [e] at go
  obtain ⟨u, y, hm, r, rv⟩ := go
  exact (pe_glob hg hm r hd).run pins s σ' H Q I (h.here w.rel rv.const)
theorem sE_bin {op : Operator} {a b : Expr} {ma mb : E} {pos : Pos} (ha : PE X a (tEv G X.K ma)) (hb : PE X b (tEv G X.K mb)) : PE X (.BinOp a op b pos) (tEv G X.K (.bin op ma mb)) :=
  PE.wk (pe_op (op_bin op) ha hb) fun σ' H Q ⟨σ, S, hid, w, h⟩ => (t2 w h).mono fun x' H1 q => q.mono fun y' H2 ⟨S2, x, y, e, w2, r1, r2, z⟩ =>
    ⟨S2, hid, x, y, w2.rel, r1, r2, binV_mono (fun v z => z.after e) z⟩
theorem sE_neg {a : Expr} {ma : E} {pos : Pos} (ha : PE X a (tEv G X.K ma)) : PE X (.UnaryOp .USub a pos) (tEv G X.K (.neg ma)) :=
  PE.wk (pe_un un_neg ha) fun σ' H Q ⟨σ, S, hid, w, h⟩ => (t1 (a := ma) w h).mono fun x' H1 ⟨S1, x, e, w1, r, z⟩ => by
    obtain ⟨i, ei, z⟩ := intQ_inv z
    subst ei
    exact ⟨i, r, (z.after e).here w1.rel rfl⟩
theorem sE_cmp (ok : Okx G lvl nm X) {op : CmpOp} {a b : Expr} {ma mb : E} {pos : Pos} (ha : PE X a (tEv G X.K ma)) (hb : PE X b (tEv G X.K mb)) (hm : behindInMarks op b = false) : PE X (.Compare a [op] [b] pos) (tEv G X.K (.cmp op ma mb)) :=
  PE.wk (pe_cmpR (op_cmp ok.room.units op) ha hb hm) fun σ' H Q ⟨σ, S, hid, w, h⟩ => (t2 w h).mono fun x' H1 q => q.mono fun y' H2 ⟨S2, x, y, e, w2, r1, r2, z⟩ =>
    ⟨S2, hid, x, y, w2.rel, r1, r2, cmpV_mono (fun v z => z.after e) z⟩
theorem sT_cmp (ok : Okx G lvl nm X) {op : CmpOp} {a b : Expr} {ma mb : E} {pos : Pos} (ha : PE X a (tEv G X.K ma)) (hb : PE X b (tEv G X.K mb)) (hm : behindInMarks op b = false) : PT X (.Compare a [op] [b] pos) (tTv G X.K (.cmp op ma mb)) :=
  PT.wk (pt_cmpR (op_cmp ok.room.units op) ha hb hm) fun σ' H Q ⟨σ, S, hid, w, h⟩ => (t2 w h).mono fun x' H1 q => q.mono fun y' H2 ⟨S2, x, y, e, w2, r1, r2, z⟩ =>
    ⟨S2, hid, x, y, w2.rel, r1, r2, cmpV_mono (fun v z v' H' e' rel' r' => ⟨v, r', (PoB.after e z) H' e' rel'⟩) z⟩
theorem brV_inv {o : Option Bool} {A B : Prop} (h : brV o A B) : (o = some true ∧ A) ∨ (o = some false ∧ B) := by
  match o with
  | some true => exact .inl ⟨rfl, h⟩
  | some false => exact .inr ⟨rfl, h⟩
  | none => exact h.elim
theorem chain_rd (ok : Okx G lvl nm X) {op op' : CmpOp} {ma mb mc : E} {R : Bool → Sto → Prop} {Q : VK} (w : Wd G X.K σ S hid σ' H)
    (hQ : ∀ k S' H', Ext S H S' H' → Rel X.K hid S' H' → R k S' → Q (.bl k) H')
    (h : evE G.c (.chain op op' ma mb mc) σ S fun v S' => ∃ k, v = .bl k ∧ R k S') :
    tChain (r2 X.K fun S x y Q => cmpV S op x y fun k => Q (.bl k)) (r2 X.K fun S x y Q => cmpV S op' x y fun k => Q (.bl k)) (tEv G X.K ma) (tEv G X.K mb) (tEv G X.K mc) σ' H Q := by
  refine (t2 w h).mono fun x' H1 q => q.mono fun y' H2 ⟨S2, x, y, e, w2, r1, r2, z⟩ => ?_
  refine ⟨S2, hid, x, y, w2.rel, r1, r2, cmpV_mono (fun v z v' H' e' rel' r' => ⟨v, r', ?_⟩) z⟩
  have w3 := w2.step e' rel'
  cases v with
  | true =>
    rw [if_pos rfl]
    have z' : evE G.c mc σ S2 (fun zv S3 => cmpV S3 op' y zv fun k2 => ∃ k, Val.bl k2 = .bl k ∧ R k S3) := z
    refine (t1 w3 z').mono fun u' H4 ⟨S4, u, e4, w4, r4, z4⟩ => ?_
    refine ⟨S4, hid, y, u, w4.rel, (r2.keep (e'.keeps hid)).keep (e4.keeps hid), r4, cmpV_mono (fun k z5 v5 H5 e5 rel5 r5 => ?_) z4⟩
    obtain ⟨k', ek, z6⟩ := z5
    cases ek
    rw [show v5 = V.bl k from r5]
    exact hQ k S4 H5 (((e.trans e').trans e4).trans e5) rel5 z6
  | false =>
    rw [if_neg Bool.false_ne_true]
    obtain ⟨k', ek, z6⟩ := (show ∃ k, Val.bl false = .bl k ∧ R k S2 from z)
    cases ek
    exact hQ false S2 H' (e.trans e') rel' z6
theorem chain_val {op op' : CmpOp} {ma mb mc : E} {c : Cxt} {Q : VQ} (h : evE c (.chain op op' ma mb mc) σ S Q) : evE c (.chain op op' ma mb mc) σ S fun v S' => ∃ k, v = .bl k ∧ Q (.bl k) S' :=
  evE_mono (c := c) ma (Q' := fun x S1 => evE c mb σ S1 fun y S2 => cmpV S2 op x y fun k => brV (some k) (evE c mc σ S2 (fun z S3 => cmpV S3 op' y z fun k2 => ∃ k, Val.bl k2 = .bl k ∧ Q (.bl k) S3)) (∃ k, Val.bl false = .bl k ∧ Q (.bl k) S2))
    (fun x S1 q1 => evE_mono mb (fun y S2 q2 => cmpV_mono (fun k q3 => brV_mono (fun q4 => evE_mono mc (fun z S3 q5 => cmpV_mono (fun k2 q6 => ⟨k2, rfl, q6⟩) q5) q4) (fun q4 => ⟨false, rfl, q4⟩) q3) q2) q1) h
theorem sE_chain (ok : Okx G lvl nm X) {op op' : CmpOp} {a b d : Expr} {ma mb md : E} {pos : Pos} (ha : PE X a (tEv G X.K ma)) (hb : PE X b (tEv G X.K mb)) (hd : PE X d (tEv G X.K md)) (hm : lastMarks [op, op'] [b, d] = false) :
    PE X (.Compare a [op, op'] [b, d] pos) (tEv G X.K (.chain op op' ma mb md)) :=
  PE.wk (pe_chain (op_cmp ok.room.units op) (op_cmp ok.room.units op') ha hb hd hm) fun σ' H Q ⟨σ, S, hid, w, h⟩ =>
    chain_rd ok (R := fun k S' => PoE X.K hid S H Q (.bl k) S') w (fun k S' H' e rel z => z (.bl k) H' e rel rfl) (chain_val h)
theorem sT_chain (ok : Okx G lvl nm X) {op op' : CmpOp} {a b d : Expr} {ma mb md : E} {pos : Pos} (ha : PE X a (tEv G X.K ma)) (hb : PE X b (tEv G X.K mb)) (hd : PE X d (tEv G X.K md)) (hm : lastMarks [op, op'] [b, d] = false) :
    PT X (.Compare a [op, op'] [b, d] pos) (tTv G X.K (.chain op op' ma mb md)) :=
  PT.wk (pt_chain (op_cmp ok.room.units op) (op_cmp ok.room.units op') ha hb hd hm) fun σ' H Q ⟨σ, S, hid, w, h⟩ =>
    chain_rd ok (R := fun k S' => PoB X.K hid S H Q k S') w (fun k S' H' e rel z => ⟨k, rfl, z H' e rel⟩) (chain_val h)
/-- a value's truth as a test -/
theorem sT_val {a : Expr} {ma : E} (ha : PE X a (tEv G X.K ma)) (he : ∀ whole, isTrue a X.env whole = (do let v ← whole; standAt a.pos; holding [v] (truthy v))) : PT X a (tTv G X.K ma) :=
  PT.wk (pt_truth ha he) fun σ' H Q ⟨σ, S, hid, w, h⟩ => (t1 (a := ma) w h).mono fun x' H1 ⟨S1, x, e, w1, r, z⟩ => by
    obtain ⟨b, eb, z⟩ := optQ_inv z
    exact ⟨b, truV_ok w1.rel r eb, z H1 e w1.rel⟩
theorem sE_not {a : Expr} {ma : E} {pos : Pos} (ha : PE X a (tEv G X.K ma)) : PE X (.UnaryOp .Not a pos) (tEv G X.K (.lnot ma)) :=
  PE.wk (pe_notT ha) fun σ' H Q ⟨σ, S, hid, w, h⟩ => (t1 (a := ma) w h).mono fun x' H1 ⟨S1, x, e, w1, r, z⟩ => by
    obtain ⟨b, eb, z⟩ := optQ_inv z
    exact ⟨b, truV_ok w1.rel r eb, (z.after e).here w1.rel rfl⟩
theorem sT_not {a : Expr} {ma : E} {pos : Pos} (ha : PT X a (tTv G X.K ma)) : PT X (.UnaryOp .Not a pos) (tTv G X.K (.lnot ma)) :=
  PT.wk (pt_not ha) fun σ' H Q ⟨σ, S, hid, w, h⟩ => (tT (a := ma) (R := fun b S' => PoB X.K hid S H Q (!b) S') w h).mono fun b H1 ⟨S1, e, w1, z⟩ => z H1 e w1.rel
theorem sE_and {a b : Expr} {rest : List Expr} {ma mb : E} {pos : Pos} (ha : PE X a (tEv G X.K ma)) (hb : PE X (.BoolOp .And (b :: rest) pos) (tEv G X.K mb)) : PE X (.BoolOp .And (a :: b :: rest) pos) (tEv G X.K (.land ma mb)) :=
  PE.wk (pe_andT ha hb) fun σ' H Q ⟨σ, S, hid, w, h⟩ => (t1 (a := ma) w h).mono fun x' H1 ⟨S1, x, e, w1, r, z⟩ => by
    rcases brV_inv z with ⟨eb, z⟩ | ⟨eb, z⟩
    · refine ⟨true, truV_ok w1.rel r eb, ?_⟩
      rw [if_pos rfl]
      exact ⟨σ, S1, hid, w1, evE_mono mb (fun v S' z => z.after e) z⟩
    · refine ⟨false, truV_ok w1.rel r eb, ?_⟩
      rw [if_neg Bool.false_ne_true]
      exact (z.after e).here w1.rel r
theorem sE_or {a b : Expr} {rest : List Expr} {ma mb : E} {pos : Pos} (ha : PE X a (tEv G X.K ma)) (hb : PE X (.BoolOp .Or (b :: rest) pos) (tEv G X.K mb)) : PE X (.BoolOp .Or (a :: b :: rest) pos) (tEv G X.K (.lor ma mb)) :=
  PE.wk (pe_orT ha hb) fun σ' H Q ⟨σ, S, hid, w, h⟩ => (t1 (a := ma) w h).mono fun x' H1 ⟨S1, x, e, w1, r, z⟩ => by
    rcases brV_inv z with ⟨eb, z⟩ | ⟨eb, z⟩
    · refine ⟨true, truV_ok w1.rel r eb, ?_⟩
      rw [if_pos rfl]
      exact (z.after e).here w1.rel r
    · refine ⟨false, truV_ok w1.rel r eb, ?_⟩
      rw [if_neg Bool.false_ne_true]
      exact ⟨σ, S1, hid, w1, evE_mono mb (fun v S' z => z.after e) z⟩
theorem tst_of {R : Bool → Sto → Prop} {v : Val} {b : Bool} (e : truV S v = some b) (h : tst R v S) : R b S := by
  unfold tst at h
  rw [e] at h
  exact h
theorem sT_and {a b : Expr} {rest : List Expr} {ma mb : E} {pos : Pos} (ha : PT X a (tTv G X.K ma)) (hb : PW X (.BoolOp .And (b :: rest) pos) (tTv G X.K mb)) : PW X (.BoolOp .And (a :: b :: rest) pos) (tTv G X.K (.land ma mb)) :=
  PW.wk (pw_and ha hb) fun σ' H Q ⟨σ, S, hid, w, h⟩ =>
    (tT (a := ma) (R := fun k S1 => brV (some k) (evE G.c mb σ S1 (tst (PoB X.K hid S H Q))) (PoB X.K hid S H Q false S1)) w (evE_mono ma (fun v S1 z => by
      rcases brV_inv z with ⟨eb, z⟩ | ⟨eb, z⟩
      · unfold tst
        rw [eb]
        exact z
      · have z2 := tst_of eb z
        unfold tst
        rw [eb]
        exact z2) h)).mono fun k H1 ⟨S1, e, w1, z⟩ => by
    cases k with
    | true =>
      rw [if_pos rfl]
      exact ⟨σ, S1, hid, w1, evE_mono mb (fun v S' z => tst_mono (fun b S'' z => z.after e) z) z⟩
    | false =>
      rw [if_neg Bool.false_ne_true]
      exact z H1 e w1.rel
theorem sT_or {a b : Expr} {rest : List Expr} {ma mb : E} {pos : Pos} (ha : PT X a (tTv G X.K ma)) (hb : PW X (.BoolOp .Or (b :: rest) pos) (tTv G X.K mb)) : PW X (.BoolOp .Or (a :: b :: rest) pos) (tTv G X.K (.lor ma mb)) :=
  PW.wk (pw_or ha hb) fun σ' H Q ⟨σ, S, hid, w, h⟩ =>
    (tT (a := ma) (R := fun k S1 => brV (some k) (PoB X.K hid S H Q true S1) (evE G.c mb σ S1 (tst (PoB X.K hid S H Q)))) w (evE_mono ma (fun v S1 z => by
      rcases brV_inv z with ⟨eb, z⟩ | ⟨eb, z⟩
      · have z2 := tst_of eb z
        unfold tst
        rw [eb]
        exact z2
      · unfold tst
        rw [eb]
        exact z) h)).mono fun k H1 ⟨S1, e, w1, z⟩ => by
    cases k with
    | true =>
      rw [if_pos rfl]
      exact z H1 e w1.rel
    | false =>
      rw [if_neg Bool.false_ne_true]
      exact ⟨σ, S1, hid, w1, evE_mono mb (fun v S' z => tst_mono (fun b S'' z => z.after e) z) z⟩
theorem sE_ife {t a b : Expr} {mt ma mb : E} {pos : Pos} (ht : PT X t (tTv G X.K mt)) (ha : PE X a (tEv G X.K ma)) (hb : PE X b (tEv G X.K mb)) : PE X (.IfExp t a b pos) (tEv G X.K (.ife mt ma mb)) :=
  PE.wk (pe_ifExp ht ha hb) fun σ' H Q ⟨σ, S, hid, w, h⟩ =>
    (tT (a := mt) (R := fun k S1 => brV (some k) (evE G.c ma σ S1 (PoE X.K hid S H Q)) (evE G.c mb σ S1 (PoE X.K hid S H Q))) w (evE_mono mt (fun v S1 z => by
      rcases brV_inv z with ⟨eb, z⟩ | ⟨eb, z⟩
      · unfold tst
        rw [eb]
        exact z
      · unfold tst
        rw [eb]
        exact z) h)).mono fun k H1 ⟨S1, e, w1, z⟩ => by
    cases k with
    | true =>
      rw [if_pos rfl]
      exact ⟨σ, S1, hid, w1, evE_mono ma (fun v S' z => z.after e) z⟩
    | false =>
      rw [if_neg Bool.false_ne_true]
      exact ⟨σ, S1, hid, w1, evE_mono mb (fun v S' z => z.after e) z⟩
/-! ### rows of arguments, displays, subscripts -/
theorem sA_nil : PA X [] (tAv G X.K .nil) := PA.wk pa_nil fun σ' H Q ⟨σ, S, hid, w, h⟩ => (show PoA X.K hid S H Q [] S from h) [] H (Ext.refl S H) w.rel rfl
theorem sA_cons {e : Expr} {es : List Expr} {me : E} {mr : Es} (he : PE X e (tEv G X.K me)) (hr : PA X es (tAv G X.K mr)) (hs : starEach (e :: es) X.env = (false, eval e X.env) :: starEach es X.env) : PA X (e :: es) (tAv G X.K (.cons me mr)) :=
  PA.wk (pa_cons he hr hs) fun σ' H Q ⟨σ, S, hid, w, h⟩ => (t1 (a := me) w h).mono fun x' H1 ⟨S1, x, e1, w1, r1, z⟩ => (tA (a := mr) w1 z).mono fun xs' H2 ⟨S2, xs, e2, w2, r2, z⟩ =>
    z (x' :: xs') H2 (e1.trans e2) w2.rel ⟨x', xs', rfl, r1.keep (e2.keeps hid), r2⟩
theorem sE_tup {es : List Expr} {ms : Es} {k : Nat} {pos : Pos} (h : PA X es (tAv G X.K ms)) : PE X (.Tuple es k pos) (tEv G X.K (.tup ms)) :=
  PE.wk (pe_tup h) fun σ' H Q ⟨σ, S, hid, w, h⟩ => (tA (a := ms) w h).mono fun xs' H1 ⟨S1, xs, e1, w1, r1, z⟩ =>
    ⟨by rw [← r1.length]; exact z.1, fun p hp => (z.2.after e1).made w1.rel hp (Rv.newT w1.rel hp r1)⟩
theorem sE_lst {es : List Expr} {ms : Es} {pos : Pos} (h : PA X es (tAv G X.K ms)) : PE X (.List es pos) (tEv G X.K (.lst ms)) :=
  PE.wk (pe_lst h) fun σ' H Q ⟨σ, S, hid, w, h⟩ => (tA (a := ms) w h).mono fun xs' H1 ⟨S1, xs, e1, w1, r1, z⟩ =>
    ⟨by rw [← r1.length]; exact z.1, fun p hp => (z.2.after e1).made w1.rel hp (Rv.newL w1.rel hp r1)⟩
theorem sE_idx {a b : Expr} {ma mb : E} {pos : Pos} (ha : PE X a (tEv G X.K ma)) (hb : PE X b (tEv G X.K mb)) (hs : PlainIx b) : PE X (.Subscript a b pos) (tEv G X.K (.idx ma mb)) :=
  PE.wk (pe_ix ix_idx ha hb hs) fun σ' H Q ⟨σ, S, hid, w, h⟩ => (t2 w h).mono fun x' H1 q => q.mono fun y' H2 ⟨S2, x, y, e, w2, r1, r2, z⟩ =>
    ⟨S2, hid, x, y, w2.rel, r1, r2, idxV_mono (fun v z => z.after e) z⟩
def tOv (G : SX) (K : PySem.W.Frag) (e : Eo) : TO := fun σ' H Q => ∃ σ S hid, Wd G K σ S hid σ' H ∧ evI G.c e σ S fun o S' => ∀ H', Ext S H S' H' → Rel K hid S' H' → Q o H'
theorem PO.wk {e : Option Expr} {t t' : TO} (h : PO X e t) (w : ∀ σ H Q, t' σ H Q → t σ H Q) : PO X e t' := ⟨fun pins s σ H Q I q => h.run pins s σ H Q I (w _ _ _ q)⟩
theorem sO_none : PO X none (tOv G X.K .no) := PO.wk po_none fun σ' H Q ⟨σ, S, hid, w, h⟩ => h H (Ext.refl S H) w.rel
theorem sO_some {a : Expr} {ma : E} (ha : PE X a (tEv G X.K ma)) : PO X (some a) (tOv G X.K (.so ma)) := PO.wk (po_some ha) fun σ' H Q ⟨σ, S, hid, w, h⟩ => (t1 (a := ma) w h).mono fun x' H1 ⟨S1, x, e1, w1, r1, z⟩ => by
  obtain ⟨i, ei, z⟩ := intQ_inv z
  subst ei
  exact ⟨i, r1, z H1 e1 w1.rel⟩
theorem tO {a : Eo} {R : Option Int → Sto → Prop} (w : Wd G K σ S hid σ' H) (h : evI G.c a σ S R) : tOv G K a σ' H fun o H1 => ∃ S1, Ext S H S1 H1 ∧ Wd G K σ S1 hid σ' H1 ∧ R o S1 :=
  ⟨σ, S, hid, w, evI_mono a (fun v S' z H' e r => ⟨S', e, w.step e r, z⟩) h⟩
theorem tOv.mono {e : Eo} {Q Q' : Option Int → Hp → Prop} (hQ : ∀ x H, Q x H → Q' x H) (h : tOv G K e σ' H Q) : tOv G K e σ' H Q' := by
  obtain ⟨σ, S, hid, w, h⟩ := h
  exact ⟨σ, S, hid, w, evI_mono e (fun v S' z H' a c => hQ _ _ (z H' a c)) h⟩
theorem sE_slc {a : Expr} {lo hi : Option Expr} {ma : E} {ml mh : Eo} {p2 pos : Pos} (ha : PE X a (tEv G X.K ma)) (hl : PO X lo (tOv G X.K ml)) (hh : PO X hi (tOv G X.K mh)) : PE X (.Subscript a (.Slice lo hi none p2) pos) (tEv G X.K (.slc ma ml mh)) :=
  PE.wk (pe_slice sl_slc ha hl hh) fun σ' H Q ⟨σ, S, hid, w, h⟩ => (t1 (a := ma) w h).mono fun x' H1 ⟨S1, x, e1, w1, r1, z⟩ => (tO (a := ml) w1 z).mono fun l H2 ⟨S2, e2, w2, z⟩ => (tO (a := mh) w2 z).mono fun u H3 ⟨S3, e3, w3, z⟩ =>
    ⟨S3, hid, x, w3.rel, r1.keep ((e2.trans e3).keeps hid), slcV_mono (fun v z => z.after (e1.trans (e2.trans e3))) z⟩
/-! ### calls -/
theorem sE_bf (ok : Okx G lvl nm X) {f : Bf} {x : Str} {id : String} {e : Expr} {es : List Expr} {ms : Es} {p pos : Pos} (hf : ∀ t, f ≠ .isi t) (hc : bfCall f = .builtin id) (hg : Gl X x) (hm : X.mg x = none) (hv : bootBuiltins x = some (.builtin id))
    (ha : PA X (e :: es) (tAv G X.K ms)) (hn : x ≠ "__name__") (hdb : (x == ("__debug__" : Str)) = false) (he : starEach (e :: es) X.env = (false, eval e X.env) :: starEach es X.env) (hpl : (backTo pos (starEach es X.env)).any (·.1) = false) :
    PE X (.Call (.Name x p) (e :: es) [] pos) (tEv G X.K (.bf f ms)) :=
  PE.wk (pe_callB (r := rF X.K fun S vs Q => bfV G.c.D f vs S Q) (by have := bf_call ok.calm G.c.D f hf; rw [hc] at this; exact this) hg hm hv ha hn hdb he hpl) fun σ' H Q ⟨σ, S, hid, w, h⟩ => (tA (a := ms) w h).mono fun xs' H1 ⟨S1, xs, e1, w1, r1, z⟩ =>
    ⟨S1, hid, xs, w1.rel, r1, bfV_mono (fun v z => z.after e1) z⟩
theorem sE_bfT (ok : Okx G lvl nm X) {f : Bf} {x : Str} {T : String} {e : Expr} {es : List Expr} {ms : Es} {p pos : Pos} (hf : ∀ t, f ≠ .isi t) (hc : bfCall f = .type T) (hg : Gl X x) (hm : X.mg x = none) (hv : bootBuiltins x = some (.type T))
    (ha : PA X (e :: es) (tAv G X.K ms)) (hn : x ≠ "__name__") (hdb : (x == ("__debug__" : Str)) = false) (he : starEach (e :: es) X.env = (false, eval e X.env) :: starEach es X.env) (hpl : (backTo pos (starEach es X.env)).any (·.1) = false) :
    PE X (.Call (.Name x p) (e :: es) [] pos) (tEv G X.K (.bf f ms)) :=
  PE.wk (pe_callTy (r := rF X.K fun S vs Q => bfV G.c.D f vs S Q) (by have := bf_call ok.calm G.c.D f hf; rw [hc] at this; exact this) hg hm hv ha hn hdb he hpl) fun σ' H Q ⟨σ, S, hid, w, h⟩ => (tA (a := ms) w h).mono fun xs' H1 ⟨S1, xs, e1, w1, r1, z⟩ =>
    ⟨S1, hid, xs, w1.rel, r1, bfV_mono (fun v z => z.after e1) z⟩
theorem evEs_one {c : Cxt} {m : E} {R : List Val → Sto → Prop} (h : evEs c (.cons m .nil) σ S R) : evE c m σ S fun v S1 => R [v] S1 := h
theorem sE_isiT {t : Ty} {x : Str} {T : String} {e : Expr} {me : E} {p pos p2 : Pos} (hT : tyN t = some T) (hg : Gl X "isinstance") (hm : X.mg "isinstance" = none) (hg2 : Gl X x) (hm2 : X.mg x = none) (hv2 : bootBuiltins x = some (.type T))
    (he : PE X e (tEv G X.K me)) (hn2 : x ≠ "__name__") (hdb2 : (x == ("__debug__" : Str)) = false) (hst : starEach [e, .Name x p2] X.env = (false, eval e X.env) :: starEach [.Name x p2] X.env) :
    PE X (.Call (.Name "isinstance" p) [e, .Name x p2] [] pos) (tEv G X.K (.bf (.isi t) (.cons me .nil))) :=
  PE.wk (pe_callB call_isi hg hm (by decide +kernel) (pa_cons he (pa_cons (pe_bltn (v := .ty T) hg2 hm2 hv2 rfl hn2 hdb2) pa_nil) hst) (he := hst)) fun σ' H Q ⟨σ, S, hid, w, h⟩ => (t1 (a := me) w (evEs_one h)).mono fun x' H1 ⟨S1, x, e1, w1, r1, z⟩ => by
    obtain ⟨b, eb, z⟩ := optQ_inv (show optQ (isiV G.c.D S1 t x) (fun b => PoE X.K hid S H Q (.bl b) S1) from z)
    obtain ⟨u, ty, k⟩ := isi_ty hT eb r1
    exact ⟨x', .ty T, u, .type T, b, rfl, .ty T, ty, k, (z.after e1).here w1.rel rfl⟩
theorem sE_isiC (ok : Okx G lvl nm X) {g : Nat} {e : Expr} {me : E} {p pos p2 : Pos} (hg : Gl X "isinstance") (hm : X.mg "isinstance" = none) (hg2 : Gl X (nm g))
    (he : PE X e (tEv G X.K me)) (hdb2 : (nm g == ("__debug__" : Str)) = false) (hst : starEach [e, .Name (nm g) p2] X.env = (false, eval e X.env) :: starEach [.Name (nm g) p2] X.env) :
    PE X (.Call (.Name "isinstance" p) [e, .Name (nm g) p2] [] pos) (tEv G X.K (.bf (.isi (.cls g)) (.cons me .nil))) := by
  have go := ok.gok g
  cases q : G.c.D g with
  | cls C fz sp n dfl =>
    rw [q] at go
    obtain ⟨f, fd, ps, k, _, _, _, _, hmC0, co, _⟩ := go
    have hmC : X.mg (nm g) = some (.ref C) := hmC0
    refine PE.wk (pe_callB call_isi hg hm (by decide +kernel) (pa_cons he (pa_cons (pe_glob (v := .ref C) hg2 hmC rfl hdb2) pa_nil) hst) (he := hst)) fun σ' H Q ⟨σ, S, hid, w, h⟩ => (t1 (a := me) w (evEs_one h)).mono fun x' H1 ⟨S1, x, e1, w1, r1, z⟩ => ?_
    obtain ⟨b, eb, z⟩ := optQ_inv (show optQ (isiV G.c.D S1 (.cls g) x) (fun b => PoE X.K hid S H Q (.bl b) S1) from z)
    obtain ⟨u, C', hm', ty, k⟩ := isi_cls w1.rel (ok.gok g) eb r1
    rw [hmC] at hm'
    cases hm'
    exact ⟨x', .ref C, u, .ref C, b, rfl, .own C, ty, k, (z.after e1).here w1.rel rfl⟩
  | _ =>
    refine PE.wk (pe_callB call_isi hg hm (by decide +kernel) (pa_cons he (pa_cons (te := fun _ _ _ => False) ⟨fun _ _ _ _ _ _ z => z.elim⟩ pa_nil) hst) (he := hst)) fun σ' H Q ⟨σ, S, hid, w, h⟩ => (t1 (a := me) w (evEs_one h)).mono fun x' H1 ⟨S1, x, e1, w1, r1, z⟩ => ?_
    obtain ⟨b, eb, z⟩ := optQ_inv (show optQ (isiV G.c.D S1 (.cls g) x) (fun b => PoE X.K hid S H Q (.bl b) S1) from z)
    have eb : isiC (G.c.D g) S1 x = some b := eb
    rw [q] at eb
    cases eb
end
end Li
set_option Elab.async false
set_option linter.all false
set_option maxRecDepth 100000
set_option maxHeartbeats 2000000
/-! LiCall: calls of defs and classes, fields, list.append; comprehensions. -/
namespace Li
open PySem L2
section
variable {X : Cx} {G : SX} {lvl : Nat} {nm : Nat → Str} {σ : Env} {S : Sto} {hid : Hid} {σ' : L2.St} {H : Hp} {K : PySem.W.Frag}
theorem drop_min {α : Type} (l : List α) (dn : Nat) : l.drop (l.length - min dn l.length) = l.drop (l.length - dn) := by
  by_cases h : dn ≤ l.length
  · rw [Nat.min_eq_left h]
  · rw [Nat.min_eq_right (by omega)]
    rw [show l.length - l.length = 0 by omega, show l.length - dn = 0 by omega]
/-- the promise of a def, for arguments that stand -/
theorem sp_of {n : Nat} {sp : ISp} {xs : List Val} {xs' : List V} {S1 : Sto} {H1 : Hp} {Q : VK} (w1 : Wd G K σ S1 hid σ' H1) (e1 : Ext S H S1 H1) (hn : xs.length = n) (r : Rvs K (Mset S1 hid) H1 xs xs') (z : sp.run xs S1 (PoE K hid S H Q) G.c.er) :
    toSp K G.T n sp xs' H1 Q (G.EX K) :=
  ⟨xs, S1, hid, w1.hT, hn, r, w1.rel, sp.mono (fun v S' z => z.after e1) (fun ex S' her cls d H' e' rel' rx => ⟨ex, S', hid, w1.p, w1.ex.trans e', rel', rx, her⟩) z⟩
theorem sE_call (ok : Okx G lvl nm X) {g dn : Nat} {e : Expr} {es : List Expr} {ms : Es} {p pos : Pos} {sp : ISp} {n : Nat} {dfl : List Val} (hD : G.c.D g = .fn sp n dfl) (hg : Gl X (nm g)) (hdb : (nm g == ("__debug__" : Str)) = false)
    (ha : PA X (e :: es) (tAv G X.K ms)) (he : starEach (e :: es) X.env = (false, eval e X.env) :: starEach es X.env) (hpl : (backTo pos (starEach es X.env)).any (·.1) = false) :
    PE X (.Call (.Name (nm g) p) (e :: es) [] pos) (tEv G X.K (.call g ms dn)) := by
  have go := ok.gok g
  rw [hD] at go
  obtain ⟨f, fd, ps, k, hk, hpl2, F, hm, kp, hb⟩ := go
  obtain ⟨ds, dvs, b, hv, rd⟩ := hb (min dn dfl.length) (Nat.min_le_right _ _)
  rw [drop_min] at rd
  refine PE.wk (pe_call (E := G.EX X.K) F (ok.room.mono hk) hg hm kp b hv ok.pas ha hdb he hpl) fun σ' H Q ⟨σ, S, hid, w, h⟩ => (tA (a := ms) w h.2).mono fun xs' H1 ⟨S1, xs, e1, w1, r1, z⟩ => ?_
  rw [hD] at z
  exact sp_of w1 e1 z.1 (r1.append rd.const) z.2
def tKv (G : SX) (K : PySem.W.Frag) (es : Es) : TA := tAv G K es
theorem PK.wk {X : Cx} {e : List Keyword} {t t' : TA} (h : PK X e t) (w : ∀ σ H Q, t' σ H Q → t σ H Q) : PK X e t' := ⟨fun pos pins s σ H Q I q => h.run pos pins s σ H Q I (w _ _ _ q)⟩
theorem sK_nil : PK X [] (tAv G X.K .nil) := PK.wk pk_nil fun σ' H Q ⟨σ, S, hid, w, h⟩ => (show PoA X.K hid S H Q [] S from h) [] H (Ext.refl S H) w.rel rfl
theorem sK_cons {e : Expr} {kws : List Keyword} {nm : Option Str} {kpos : Pos} {me : E} {mr : Es} (he : PE X e (tEv G X.K me)) (hr : PK X kws (tAv G X.K mr)) : PK X (⟨nm, e, kpos⟩ :: kws) (tAv G X.K (.cons me mr)) :=
  PK.wk (pk_cons he hr) fun σ' H Q ⟨σ, S, hid, w, h⟩ => (t1 (a := me) w h).mono fun x' H1 ⟨S1, x, e1, w1, r1, z⟩ => (tA (a := mr) w1 z).mono fun xs' H2 ⟨S2, xs, e2, w2, r2, z⟩ =>
    z (x' :: xs') H2 (e1.trans e2) w2.rel ⟨x', xs', rfl, r1.keep (e2.keeps hid), r2⟩
theorem sE_callk (ok : Okx G lvl nm X) {g : Nat} {e : Expr} {es : List Expr} {kws : List Keyword} {ms mk : Es} {p pos : Pos} {sp : ISp} {n np : Nat} {ks : List Str} (hD : G.c.D g = .fnk sp n np ks) (hg : Gl X (nm g)) (hdb : (nm g == ("__debug__" : Str)) = false)
    (ha : PA X (e :: es) (tAv G X.K ms)) (hk : PK X kws (tAv G X.K mk)) (hall : (backToKw pos (keywordEach kws X.env)).all (·.1.isSome) = true) (hks : (backToKw pos (keywordEach kws X.env)).filterMap (·.1) = ks) (he : starEach (e :: es) X.env = (false, eval e X.env) :: starEach es X.env)
    (hpl : ((backTo pos (starEach (e :: es) X.env)).any (·.1) || (backToKw pos (keywordEach kws X.env)).any (·.1.isNone)) = false) :
    PE X (.Call (.Name (nm g) p) (e :: es) kws pos) (tEv G X.K (.callk g ms ks mk)) := by
  have go := ok.gok g
  rw [hD] at go
  obtain ⟨f, fd, ps, k, hk1, hpl2, F, hm, kp, hb⟩ := go
  refine PE.wk (pe_callN (E := G.EX X.K) F (ok.room.mono hk1) hg hm kp hb ok.pas ha hk hall hks hdb he hpl) fun σ' H Q ⟨σ, S, hid, w, h⟩ => (tA (a := ms) w h.2).mono fun xs' H1 ⟨S1, xs, e1, w1, r1, z⟩ =>
    (tA (a := mk) w1 z).mono fun ys' H2 ⟨S2, ys, e2, w2, r2, z2⟩ => ?_
  rw [hD] at z2
  obtain ⟨z3, z4, z5, z6⟩ := z2
  exact ⟨by rw [← r1.length]; exact z3, by rw [← r2.length]; exact z4, sp_of w2 (e1.trans e2) z5 ((r1.keep (e2.keeps hid)).append r2) z6⟩
theorem sE_call0 (ok : Okx G lvl nm X) {g dn : Nat} {p pos : Pos} {sp : ISp} {n : Nat} {dfl : List Val} (hD : G.c.D g = .fn sp n dfl) (hg : Gl X (nm g)) (hdb : (nm g == ("__debug__" : Str)) = false) :
    PE X (.Call (.Name (nm g) p) [] [] pos) (tEv G X.K (.call g .nil dn)) := by
  have go := ok.gok g
  rw [hD] at go
  obtain ⟨f, fd, ps, k, hk, hpl2, F, hm, kp, hb⟩ := go
  obtain ⟨ds, dvs, b, hv, rd⟩ := hb (min dn dfl.length) (Nat.min_le_right _ _)
  rw [drop_min] at rd
  refine PE.wk (pe_call0 (E := G.EX X.K) F (ok.room.mono hk) hg hm kp b hv ok.pas hdb) fun σ' H Q ⟨σ, S, hid, w, h⟩ => ?_
  have z : callG (G.c.D g) [] dn S (PoE X.K hid S H Q) G.c.er := h.2
  rw [hD] at z
  exact sp_of w (Ext.refl S H) z.1 (Rvs.append (vs := []) (xs := []) rfl rd.const) z.2
theorem zip_lookup {K : PySem.W.Frag} {M : Addr → Prop} {H : Hp} {f : Str} : ∀ {ns : List Str} {vs : List Val} {xs : List V} {v : Val}, Rvs K M H vs xs → (ns.zip vs).lookup f = some v → ∃ x, (ns.zip xs).lookup f = some x ∧ Rv K M H v x
  | [], _, _, _, _, e => by cases e
  | n :: ns, [], _, _, _, e => by cases e
  | n :: ns, u :: us, _, v, ⟨x, y, ex, h1, h2⟩, e => by
    rw [ex]
    rw [List.zip_cons_cons, List.lookup_cons] at e ⊢
    cases q : f == n with
    | true =>
      rw [q] at e
      cases e
      exact ⟨x, rfl, h1⟩
    | false =>
      rw [q] at e
      exact zip_lookup (ns := ns) h2 e
/-- an instance just made -/
theorem made_rd {C x dx : Addr} {xs : List Val} {xs' : List V} {S1 : Sto} {H1 : Hp} {n : Nat} {sp : ISp} {fz : Bool} {Q : VK} (w1 : Wd G K σ S1 hid σ' H1) (e1 : Ext S H S1 H1) (hn : xs.length + 1 = n) (r : Rvs K (Mset S1 hid) H1 xs xs')
    (z : ∀ x, S1 x = none → sp.run (.adr x :: xs) (S1.set x (.obj C [])) (fun v S' => v = .non ∧ ∃ fs, S' x = some (.obj C fs) ∧ (if fz = true then PoE K hid S H Q (.ins C (fs.map (·.1)) (fs.map (·.2))) (S'.del x) else PoE K hid S H Q (.adr x) S')) G.c.er)
    (hx : H1 x = none) (hdx : H1 dx = none) (ne : dx ≠ x) :
    toSp K G.T n sp (.ref x :: xs') (upd (upd H1 dx (.own x)) x (.ins C dx [])) (fun v H2 => v = .non ∧ Q (.ref x) H2) (G.EX K) := by
  have hx2 : upd H1 dx (.own x) x = none := by rw [upd_ne ne.symm]; exact hx
  have rel1 := w1.rel.new (o := .own x) hdx
  have rel2 : Rel K hid (S1.set x (.obj C [])) (upd (upd H1 dx (.own x)) x (.ins C dx [])) := rel1.cell hx2 ⟨dx, [], upd_same, rfl⟩
  have ee : Ext S1 H1 (S1.set x (.obj C [])) (upd (upd H1 dx (.own x)) x (.ins C dx [])) := (Ext.new S1 hdx).trans (Ext.cell hx2)
  refine ⟨.adr x :: xs, S1.set x (.obj C []), hid, w1.hT, hn, ⟨_, _, rfl, rfl, r.keep (ee.keeps hid)⟩, rel2, sp.mono (fun v S' q => ?_) (fun ex S' her cls d H' e' rel' rx => ⟨ex, S', hid, w1.p, w1.ex.trans (ee.trans e'), rel', rx, her⟩) (z x (w1.rel.free hx))⟩
  intro v' H' e' rel' rv
  obtain ⟨ev, fs, hS, q⟩ := q
  subst ev
  refine ⟨rv, ?_⟩
  have e2 := e1.trans (ee.trans e')
  by_cases hf : fz = true
  · rw [if_pos hf] at q
    refine q (.ref x) H' (e2.trans (Ext.del S' H' x)) (rel'.del x) ?_
    obtain ⟨dx', ys, h1, h2⟩ := rel'.cells x _ hS
    refine ⟨x, dx', ys, rfl, h1, fun m => ?_, by rw [List.length_map, List.length_map], h2.keep keeps_del⟩
    rcases m with m | m
    · exact m Sto.del_same
    · exact w1.rel.nohid hx m
  · rw [if_neg hf] at q
    exact q (.ref x) H' e2 rel' rfl
theorem sE_make (ok : Okx G lvl nm X) {g dn : Nat} {e : Expr} {es : List Expr} {ms : Es} {p pos : Pos} {C : Addr} {fz : Bool} {sp : ISp} {n : Nat} {dfl : List Val} (hD : G.c.D g = .cls C fz sp n dfl) (hg : Gl X (nm g)) (hdb : (nm g == ("__debug__" : Str)) = false)
    (ha : PA X (e :: es) (tAv G X.K ms)) (he : starEach (e :: es) X.env = (false, eval e X.env) :: starEach es X.env) (hpl : (backTo pos (starEach es X.env)).any (·.1) = false) :
    PE X (.Call (.Name (nm g) p) (e :: es) [] pos) (tEv G X.K (.call g ms dn)) := by
  have go := ok.gok g
  rw [hD] at go
  obtain ⟨f, fd, ps, k, hk, hpl2, M, F, hm, co, hb⟩ := go
  obtain ⟨ds, dvs, b, hv, rd⟩ := hb (min dn dfl.length) (Nat.min_le_right _ _)
  rw [drop_min] at rd
  refine PE.wk (pe_make (E := G.EX X.K) M F (ok.room.mono hk) hg hm b hv ok.pas ha hdb he hpl) fun σ' H Q ⟨σ, S, hid, w, h⟩ => (tA (a := ms) w h.2).mono fun xs' H1 ⟨S1, xs, e1, w1, r1, z⟩ x dx hx hdx ne => ?_
  rw [hD] at z
  exact made_rd w1 e1 z.1 (r1.append rd.const) z.2 hx hdx ne
theorem sE_make0 (ok : Okx G lvl nm X) {g dn : Nat} {p pos : Pos} {C : Addr} {fz : Bool} {sp : ISp} {n : Nat} {dfl : List Val} (hD : G.c.D g = .cls C fz sp n dfl) (hg : Gl X (nm g)) (hdb : (nm g == ("__debug__" : Str)) = false) :
    PE X (.Call (.Name (nm g) p) [] [] pos) (tEv G X.K (.call g .nil dn)) := by
  have go := ok.gok g
  rw [hD] at go
  obtain ⟨f, fd, ps, k, hk, hpl2, M, F, hm, co, hb⟩ := go
  obtain ⟨ds, dvs, b, hv, rd⟩ := hb (min dn dfl.length) (Nat.min_le_right _ _)
  rw [drop_min] at rd
  refine PE.wk (pe_make0 (E := G.EX X.K) M F (ok.room.mono hk) hg hm b hv ok.pas hdb) fun σ' H Q ⟨σ, S, hid, w, h⟩ x dx hx hdx ne => ?_
  have z : callG (G.c.D g) [] dn S (PoE X.K hid S H Q) G.c.er := h.2
  rw [hD] at z
  exact made_rd w (Ext.refl S H) z.1 (Rvs.append (vs := []) (xs := []) rfl rd.const) z.2 hx hdx ne
theorem objL {fs : List (Str × Val)} {f : Str} : fs.lookup f = ((fs.map (·.1)).zip (fs.map (·.2))).lookup f := by
  congr 1
  induction fs with
  | nil => rfl
  | cons a r ih => rw [List.map_cons, List.map_cons, List.zip_cons_cons, ← ih]
theorem sE_attr (ok : Okx G lvl nm X) {o : Expr} {mo : E} {f : Str} {pos : Pos} (ho : PE X o (tEv G X.K mo)) (hb : attributeBase o f X.env (eval o X.env) = eval o X.env) : PE X (.Attribute o f pos) (tEv G X.K (.attr mo f)) :=
  PE.wk (pe_fld ho hb) fun σ' H Q ⟨σ, S, hid, w, h⟩ => (t1 (a := mo) w h).mono fun x' H1 ⟨S1, x, e1, w1, r1, z⟩ => by
    have zz : fldV G.c.A S1 f (fun v => PoE X.K hid S H Q v S1) x := z
    clear z
    unfold fldV at zz
    split at zz
    · rename_i C ns vs
      have z := zz
      obtain ⟨v, ev, q⟩ := optQ_inv z.2
      obtain ⟨p, dx, xs, ex, h1, _, _, h4⟩ := r1
      obtain ⟨y, ey, ry⟩ := zip_lookup h4 ev
      obtain ⟨c1, c2⟩ := ok.att C f z.1
      exact ⟨p, C, dx, _, y, ex, h1, c1, c2, ey, (q.after e1).here w1.rel ry⟩
    · rename_i a
      obtain ⟨C, fs, hS, zA, z⟩ := objQ_inv zz
      obtain ⟨v, ev, q⟩ := optQ_inv z
      obtain ⟨dx, xs, h1, h4⟩ := w1.rel.cells a _ hS
      rw [objL] at ev
      obtain ⟨y, ey, ry⟩ := zip_lookup h4 ev
      obtain ⟨c1, c2⟩ := ok.att C f zA
      exact ⟨a, C, dx, _, y, r1, h1, c1, c2, ey, (q.after e1).here w1.rel ry⟩
    · exact zz.elim
theorem sE_append {o e : Expr} {es : List Expr} {mo : E} {ms : Es} {apos cpos : Pos} (ho : PE X o (tEv G X.K mo)) (ha : PA X (e :: es) (tAv G X.K ms)) (hbase : attributeBase o "append" X.env (eval o X.env) = eval o X.env)
    (hfew : ((backTo cpos (starEach (e :: es) X.env)).all (fun x => !x.1) && (backToKw cpos (keywordEach [] X.env)).all (fun x => x.1.isSome)
      && decide ((e :: es).length + ([] : List Keyword).length + (if ([] : List Keyword).isEmpty then 0 else 1) < 30)) = true)
    (hline : (apos.endLine == cpos.line) = true) (hs : starEach (e :: es) X.env = (false, eval e X.env) :: starEach es X.env) (hplain : (backTo cpos (starEach es X.env)).any (·.1) = false) :
    PE X (.Call (.Attribute o "append" apos) (e :: es) [] cpos) (tEv G X.K (.bm .append mo ms)) :=
  PE.wk (pe_bm PySem.F.plainAttrs_list PySem.F.slot_list_append PySem.F.type_list_append mt_append ho ha hbase hfew hline hs hplain) fun σ' H Q ⟨σ, S, hid, w, h⟩ => (t1 (a := mo) w h).mono fun x' H1 ⟨S1, x, e1, w1, r1, z⟩ => by
    obtain ⟨a, ea, z1⟩ := adrQ_inv (show adrQ x fun a => celQ S1 a fun _ => True from z.1)
    obtain ⟨us, hS, _⟩ := celQ_inv z1
    subst ea
    obtain ⟨xs, h1, h2⟩ := w1.rel.cells a _ hS
    have ex : x' = .ref a := r1
    subst ex
    refine ⟨.inl ⟨rfl, xs, SqL.of h1⟩, (tA (a := ms) w1 z.2).mono fun ys' H2 ⟨S2, ys, e2, w2, r2, z2⟩ => ?_⟩
    unfold bmV at z2
    split at z2
    · rename_i v
      obtain ⟨a', ea', z3⟩ := adrQ_inv z2
      cases ea'
      obtain ⟨us', hS', z4⟩ := celQ_inv z3
      obtain ⟨xs2, h12, h22⟩ := w2.rel.cells a _ hS'
      obtain ⟨y, ey, ry⟩ := Rvs.one r2
      refine ⟨a, xs2, y, rfl, ey, h12, by rw [← h22.length]; exact z4.1, ?_⟩
      refine z4.2 .non _ ((e1.trans e2).trans (Ext.put hS')) (w2.rel.put hS' ⟨_, upd_same, ?_⟩) rfl
      exact (h22.keep (keeps_put hS')).append ⟨y, [], rfl, ry.keep (keeps_put hS'), rfl⟩
    · exact absurd (by assumption : Bm.append = Bm.get) (fun z => nomatch z)
    · exact z2.elim
end
end Li
set_option Elab.async false
set_option linter.all false
set_option maxRecDepth 100000
set_option maxHeartbeats 2000000
/-! LiIt: what a loop or a comprehension walks; targets; comprehensions. -/
namespace Li
open PySem L2
/-! ### targets -/
def gsOf : List Nat → TGs
  | [] => gNil
  | i :: r => gCons (gName i) (gsOf r)
def gOf (K : PySem.W.Frag) : Tg → TG
  | .one i => gName i
  | .many ts => gTup K ts.length (gsOf ts)
def tgs : Tg → List Nat
  | .one i => [i]
  | .many ts => ts
theorem tupQ_inv {v : Val} {Q : List Val → Prop} (h : tupQ v Q) : ∃ vs, v = .tup vs ∧ Q vs := by
  cases v <;> first
    | exact ⟨_, rfl, h⟩
    | exact h.elim
theorem wipe_in {σ : L2.St} {i : Nat} : ∀ {vs : List Nat}, i ∈ vs → (L2.wipe σ vs)[i]? = if i < σ.length then some none else none
  | v :: vs, h => by
    show ((L2.wipe σ vs).set v none)[i]? = _
    by_cases e : v = i
    · subst e
      by_cases hl : v < σ.length
      · rw [List.getElem?_set_self (by rw [L2.wipe_length]; exact hl), if_pos hl]
      · rw [if_neg hl, List.getElem?_eq_none (by rw [List.length_set, L2.wipe_length]; omega)]
    · rw [List.getElem?_set_ne e]
      rcases List.mem_cons.mp h with q | q
      · exact absurd q.symm e
      · exact wipe_in q
theorem wipe_off {σ : L2.St} {i : Nat} : ∀ {vs : List Nat}, i ∉ vs → (L2.wipe σ vs)[i]? = σ[i]?
  | [], _ => rfl
  | v :: vs, h => by
    show ((L2.wipe σ vs).set v none)[i]? = _
    rw [List.getElem?_set_ne fun (e : v = i) => h (by rw [e]; exact List.mem_cons_self)]
    exact wipe_off fun q => h (List.mem_cons_of_mem _ q)
theorem wipe_eq {σ τ : L2.St} {vs : List Nat} (hl : σ.length = τ.length) (h : ∀ i, i ∉ vs → σ[i]? = τ[i]?) : L2.wipe σ vs = L2.wipe τ vs := by
  apply List.ext_getElem?
  intro i
  by_cases hi : i ∈ vs
  · rw [wipe_in hi, wipe_in hi, hl]
  · rw [wipe_off hi, wipe_off hi, h i hi]
/-- what a target stores -/
structure Put (K : PySem.W.Frag) (M : Addr → Prop) (H : Hp) (ts : List Nat) (σ' : L2.St) (σ2 : Env) (σ2' : L2.St) : Prop where
  env : Renv K M H σ2 σ2'
  len : σ2'.length = σ'.length
  out : ∀ i, i ∉ ts → σ2'[i]? = σ'[i]?
theorem asgs_rd {K : PySem.W.Frag} {M : Addr → Prop} {H : Hp} {k : Env → Prop} {Q : L2.St → Hp → Prop} : ∀ {ts : List Nat} {vs : List Val} {xs : List V} {σ : Env} {σ' : L2.St}, asgs ts vs σ k → Renv K M H σ σ' → Rvs K M H vs xs →
    (∀ σ2 σ2', k σ2 → Put K M H ts σ' σ2 σ2' → Q σ2' H) → gsOf ts xs σ' H Q ∧ xs.length = ts.length
  | [], [], xs, σ, σ', h, e, r, q => by
    cases (show xs = [] from r)
    exact ⟨⟨rfl, q σ σ' h ⟨e, rfl, fun _ _ => rfl⟩⟩, rfl⟩
  | [], v :: vs, xs, σ, σ', h, e, r, q => h.elim
  | t :: ts, [], xs, σ, σ', h, e, r, q => h.elim
  | t :: ts, v :: vs, xs, σ, σ', h, e, ⟨x, y, ex, r1, r2⟩, q => by
    obtain ⟨h1, h2⟩ := asgs_rd (ts := ts) (vs := vs) (xs := y) (σ := σ.set t (some v)) (σ' := σ'.set t (some x)) h (e.set t r1) r2 (Q := Q) fun σ2 σ2' hk p =>
      q σ2 σ2' hk ⟨p.env, by rw [p.len, List.length_set], fun i hi => by
        rw [p.out i fun z => hi (List.mem_cons_of_mem _ z), List.getElem?_set_ne fun (z : t = i) => hi (by rw [z]; exact List.mem_cons_self)]⟩
    exact ⟨⟨x, y, ex, h1⟩, by rw [ex, List.length_cons, List.length_cons, h2]⟩
theorem asg_rd {K : PySem.W.Frag} {M : Addr → Prop} {H : Hp} {k : Env → Prop} {Q : L2.St → Hp → Prop} {t : Tg} {v : Val} {x : V} {σ : Env} {σ' : L2.St} (h : asg t v σ k) (e : Renv K M H σ σ') (r : Rv K M H v x)
    (q : ∀ σ2 σ2', k σ2 → Put K M H (tgs t) σ' σ2 σ2' → Q σ2' H) : gOf K t x σ' H Q := by
  cases t with
  | one i => exact q _ _ h ⟨e.set i r, by rw [List.length_set], fun j hj => List.getElem?_set_ne fun (z : i = j) => hj (by rw [z]; exact List.mem_cons_self)⟩
  | many ts =>
    obtain ⟨vs, ev, h⟩ := tupQ_inv h
    subst ev
    obtain ⟨p, xs, ex, q1, s1⟩ := r.seqT
    obtain ⟨h1, h2⟩ := asgs_rd h e s1 q
    exact ⟨p, xs, ex, q1, h2, h1⟩
/-! ### what is walked -/
structure Feeds (K : PySem.W.Frag) (hid : Hid) (S1 : Sto) (H1 : Hp) (J : L2.It) (items : List Val) (chk : Sto → Prop) : Prop where
  go : ∀ {S2 H2 hid2}, (∀ p, hid2 p → hid p ∨ H1 p = none) → Ext S1 H1 S2 H2 → Rel K hid2 S2 H2 → chk S2 → ∀ {i v}, items[i]? = some v →
    J.go i H2 ∧ ∀ x H3, J.yld i H2 x H3 → Ext S2 H2 S2 H3 ∧ Rel K hid2 S2 H3 ∧ Rv K (Mset S2 hid2) H3 v x ∧ ∀ p, H3 p = none → H2 p = none
  stop : ∀ {S2 H2 hid2}, (∀ p, hid2 p → hid p ∨ H1 p = none) → Ext S1 H1 S2 H2 → Rel K hid2 S2 H2 → chk S2 → J.stop items.length H2
def iEv (G : SX) (K : PySem.W.Frag) (it : It) : TI := fun σ' H R => ∃ σ S hid, Wd G K σ S hid σ' H ∧ evIt G.c it σ S fun items chk S1 => ∀ J H1, Ext S H S1 H1 → Rel K hid S1 H1 → Feeds K hid S1 H1 J items chk → R J H1
theorem keeps_later {S1 S2 : Sto} {H1 H2 : Hp} {hid hid2 : Hid} (hh : ∀ p, hid2 p → hid p ∨ H1 p = none) (e : Ext S1 H1 S2 H2) : Keeps (Mset S1 hid) H1 (Mset S2 hid2) H2 := ⟨fun p o h sd n => by
  have hs : S1 p = none := Classical.byContradiction fun z => n (.inl z)
  obtain ⟨h1, h2⟩ := e.keep p o h sd hs
  refine ⟨h1, fun z => ?_⟩
  rcases z with z | z
  · exact z h2
  · rcases hh p z with q | q
    · exact n (.inr q)
    · rw [h] at q; cases q⟩
section
variable {X : Cx} {G : SX} {lvl : Nat} {nm : Nat → Str} {σ : Env} {S : Sto} {hid : Hid} {σ' : L2.St} {H : Hp} {K : PySem.W.Frag}
theorem PI.wk {tg it : Expr} {t t' : TI} (h : PI X tg it t) (w : ∀ σ H R, t' σ H R → t σ H R) : PI X tg it t' := ⟨fun pins s σ H R I q => h.run pins s σ H R I (w _ _ _ q)⟩
theorem feeds_tup {vs : List Val} {a : Addr} {xs : List V} {S1 : Sto} {H1 : Hp} {chk : Sto → Prop} (h1 : (H1 a = some (.tup xs) ∧ ¬ Mset S1 hid a) ∨ SqT K (fun _ => none) a xs) (r : Rvs K (Mset S1 hid) H1 vs xs) : Feeds K hid S1 H1 (Itt K a) vs chk := by
  have at2 : ∀ {S2 : Sto} {H2 : Hp} {hid2 : Hid}, (∀ p, hid2 p → hid p ∨ H1 p = none) → Ext S1 H1 S2 H2 → SqT K H2 a xs := fun hh e => by
    rcases h1 with h1 | h1
    · exact SqT.of ((keeps_later hh e).keep a _ h1.1 so_tup h1.2).1
    · exact SqT.const h1 _
  refine ⟨fun {S2 H2 hid2} hh e rel _ {i v} hv => ?_, fun {S2 H2 hid2} hh e rel _ => ⟨xs, at2 hh e, by rw [r.length]; exact Nat.le_refl _⟩⟩
  obtain ⟨x, hx, rx⟩ := (r.keep (keeps_later hh e)).get hv
  refine ⟨⟨xs, x, at2 hh e, hx⟩, fun y H3 ⟨eH, ey⟩ => ?_⟩
  subst eH
  have := ey xs (at2 hh e)
  rw [hx] at this
  cases this
  exact ⟨Ext.refl _ _, rel, rx, fun _ h => h⟩
theorem feeds_lst {vs : List Val} {a : Addr} {xs : List V} {S1 : Sto} {H1 : Hp} {chk : Sto → Prop} (h1 : H1 a = some (.lst xs)) (h2 : ¬ Mset S1 hid a) (r : Rvs K (Mset S1 hid) H1 vs xs) : Feeds K hid S1 H1 (Itl K a) vs chk := by
  have at2 : ∀ {S2 : Sto} {H2 : Hp} {hid2 : Hid}, (∀ p, hid2 p → hid p ∨ H1 p = none) → Ext S1 H1 S2 H2 → SqL K H2 a xs := fun hh e => SqL.of ((keeps_later hh e).keep a _ h1 so_lst h2).1
  refine ⟨fun {S2 H2 hid2} hh e rel _ {i v} hv => ?_, fun {S2 H2 hid2} hh e rel _ => ⟨xs, at2 hh e, by rw [r.length]; exact Nat.le_refl _⟩⟩
  obtain ⟨x, hx, rx⟩ := (r.keep (keeps_later hh e)).get hv
  refine ⟨⟨xs, x, at2 hh e, hx⟩, fun y H3 ⟨eH, ey⟩ => ?_⟩
  subst eH
  have := ey xs (at2 hh e)
  rw [hx] at this
  cases this
  exact ⟨Ext.refl _ _, rel, rx, fun _ h => h⟩
theorem feeds_scr {ns : List Int} {a : Addr} {S1 : Sto} {H1 : Hp} {chk : Sto → Prop} (h1 : ((H1 a = some (.lst (ns.map V.int)) ∨ ∃ o, H1 a = some (.frz o (.lst (ns.map V.int)))) ∧ ¬ Mset S1 hid a) ∨ SqL K (fun _ => none) a (ns.map V.int)) : Feeds K hid S1 H1 (Itl K a) (ns.map Val.int) chk := by
  have at2 : ∀ {S2 : Sto} {H2 : Hp} {hid2 : Hid}, (∀ p, hid2 p → hid p ∨ H1 p = none) → Ext S1 H1 S2 H2 → SqL K H2 a (ns.map V.int) := fun hh e => h1.elim (fun ⟨q1, q2⟩ => q1.elim (fun q1 => .inl (.inl ((keeps_later hh e).keep a _ q1 so_lst q2).1)) fun ⟨o, q1⟩ => .inl (.inr ⟨o, ((keeps_later hh e).keep a _ q1 so_frz q2).1⟩)) fun q => SqL.const q _
  refine ⟨fun {S2 H2 hid2} hh e rel _ {i v} hv => ?_, fun {S2 H2 hid2} hh e rel _ => ⟨_, at2 hh e, by rw [List.length_map, List.length_map]; exact Nat.le_refl _⟩⟩
  obtain ⟨x, hx, rx⟩ := (Rvs.ints (K := K) ns).get hv
  refine ⟨⟨_, x, at2 hh e, hx⟩, fun y H3 ⟨eH, ey⟩ => ?_⟩
  subst eH
  have := ey _ (at2 hh e)
  rw [hx] at this
  cases this
  exact ⟨Ext.refl _ _, rel, rx, fun _ h => h⟩
theorem feeds_cel {vs : List Val} {a : Addr} {S1 : Sto} {H1 : Hp} {chk : Sto → Prop} (hS : S1 a = some (.lst vs)) (hc : ∀ S, chk S → S a = S1 a) : Feeds K hid S1 H1 (Itl K a) vs chk := by
  refine ⟨fun {S2 H2 hid2} hh e rel ck {i v} hv => ?_, fun {S2 H2 hid2} hh e rel ck => ?_⟩
  · obtain ⟨xs, h1, r⟩ := rel.cells a _ ((hc _ ck).trans hS)
    obtain ⟨x, hx, rx⟩ := r.get hv
    refine ⟨⟨xs, x, SqL.of h1, hx⟩, fun y H3 ⟨eH, ey⟩ => ?_⟩
    subst eH
    have := ey xs (SqL.of h1)
    rw [hx] at this
    cases this
    exact ⟨Ext.refl _ _, rel, rx, fun _ h => h⟩
  · obtain ⟨xs, h1, r⟩ := rel.cells a _ ((hc _ ck).trans hS)
    exact ⟨xs, SqL.of h1, by rw [r.length]; exact Nat.le_refl _⟩
theorem rngV_get : ∀ {n : Nat} {lo : Int} {i : Nat} {v : Val}, (rngV lo n)[i]? = some v → i < n ∧ v = .int (lo + i)
  | 0, _, _, _, h => by simp [rngV] at h
  | n + 1, lo, 0, v, h => by
    have : Val.int lo = v := by simpa [rngV] using h
    exact ⟨Nat.succ_pos _, by rw [← this]; simp⟩
  | n + 1, lo, i + 1, v, h => by
    obtain ⟨h1, h2⟩ := rngV_get (n := n) (lo := lo + 1) (i := i) (v := v) (by simpa [rngV] using h)
    exact ⟨Nat.succ_lt_succ h1, by rw [h2]; congr 1; omega⟩
theorem rngV_len : ∀ {n : Nat} {lo : Int}, (rngV lo n).length = n
  | 0, _ => rfl
  | n + 1, lo => by rw [rngV, List.length_cons, rngV_len]
theorem feeds_rng {lo : Int} {n : Nat} {S1 : Sto} {H1 : Hp} {chk : Sto → Prop} : Feeds K hid S1 H1 (Itr lo n) (rngV lo n) chk := by
  refine ⟨fun {S2 H2 hid2} hh e rel _ {i v} hv => ?_, fun {S2 H2 hid2} hh e rel _ => by show n ≤ _; rw [rngV_len]; exact Nat.le_refl _⟩
  obtain ⟨h1, h2⟩ := rngV_get hv
  refine ⟨h1, fun x H3 ⟨eH, ex⟩ => ?_⟩
  subst eH ex h2
  exact ⟨Ext.refl _ _, rel, rfl, fun _ h => h⟩
/-! a list or a tuple, by what it is -/
theorem it_lst {pins : List (Addr × Obj)} {s : Shared} {σ : L2.St} {H : Hp} {tg : Expr} {a : Addr} {xs : List V} {R : L2.It → Hp → Prop} {E : Value → Shared → Prop} (J : L2.Inv X pins σ H s) (hq : SqL X.K H a xs) (q : R (Itl X.K a) H) : wpAny (model X.prog X.w) X.A (pyIter (.ref a)) (PIE X pins σ tg R) E s := by
  obtain ⟨vals, rel, pl, len⟩ := J.list hq
  apply wpAny_pyIter_list pl.isList
  have J2 := J.kept (t' := s.toks) (h' := s.heap.push { cls := .type "list_iterator", data := .fields #[.ref a, .int 0 0] }) fun b o e => Heap.get?_push_of_some _ e
  exact ⟨s.heap.objs.size, [s.heap.objs.size], _, _, H, rfl, J2, turn_list a _, ⟨_, Heap.get?_push_size _ rfl, rfl, rfl⟩, fun b hb => by
    rw [List.mem_singleton.mp hb]
    exact J.fpOk (Nat.le_refl _) (J.hok.fresh (Nat.le_refl _)), q⟩
theorem it_tup {pins : List (Addr × Obj)} {s : Shared} {σ : L2.St} {H : Hp} {tg : Expr} {a : Addr} {xs : List V} {R : L2.It → Hp → Prop} {E : Value → Shared → Prop} (J : L2.Inv X pins σ H s) (hq : SqT X.K H a xs) (q : R (Itt X.K a) H) : wpAny (model X.prog X.w) X.A (pyIter (.ref a)) (PIE X pins σ tg R) E s := by
  obtain ⟨vals, rel, pl, len⟩ := J.tuple hq
  apply wpAny_pyIter_tuple (show s.heap.IsTuple a vals.toArray from pl)
  have J2 := J.kept (t' := s.toks) (h' := s.heap.push { cls := .type "tuple_iterator", data := .fields #[.ref a, .int 0 0] }) fun b o e => Heap.get?_push_of_some _ e
  exact ⟨s.heap.objs.size, [s.heap.objs.size], _, _, H, rfl, J2, turn_tuple a _, ⟨_, Heap.get?_push_size _ rfl, rfl, rfl⟩, fun b hb => by
    rw [List.mem_singleton.mp hb]
    exact J.fpOk (Nat.le_refl _) (J.hok.fresh (Nat.le_refl _)), q⟩
theorem asL_inv {v : Val} {vs : List Val} (e : asL S v = some vs) : v = .lst vs ∨ ∃ a, v = .adr a ∧ S a = some (.lst vs) := by
  cases v with
  | lst us => cases e; exact .inl rfl
  | adr a =>
    have e2 : (match S a with
      | some (.lst vs) => some vs
      | _ => none) = some vs := e
    cases q : S a with
    | none => rw [q] at e2; cases e2
    | some c =>
      rw [q] at e2
      cases c with
      | lst us => cases e2; exact .inr ⟨a, rfl, q⟩
      | _ => cases e2
  | _ => cases e
theorem seqV_inv {v : Val} {vs : List Val} (e : seqV S v = some vs) : v = .tup vs ∨ (∃ ns, v = .scr ns ∧ vs = ns.map Val.int) ∨ v = .lst vs ∨ ∃ a, v = .adr a ∧ S a = some (.lst vs) := by
  cases v with
  | tup us => cases e; exact .inl rfl
  | scr ns => cases e; exact .inr (.inl ⟨ns, rfl, rfl⟩)
  | lst us => exact .inr (.inr (asL_inv (S := S) e))
  | adr a => exact .inr (.inr (asL_inv (S := S) e))
  | _ => cases e
theorem sI_seq {tg e : Expr} {m : E} (he : PE X e (tEv G X.K m)) : PI X tg e (iEv G X.K (.seq m)) := by
  refine ⟨fun pins s σ' H R I ⟨σ, S, hid, w, h⟩ => thn (he.run pins s σ' H _ I (t1 (a := m) w h)) fun v s1 ⟨x', H1, I1, r1, S1, x, e1, w1, rx, z⟩ => ?_⟩
  obtain ⟨vs, ev, z⟩ := optQ_inv z
  rcases seqV_inv ev with ex | ⟨ns, ex, en⟩ | ex | ⟨a, ex, hS⟩
  · subst ex
    obtain ⟨p, xs, exx, h1, s1⟩ := rx
    subst exx
    cases r1
    have hq : SqT X.K H1 p xs := by
      rcases h1 with h1 | h1
      · exact SqT.of h1.1
      · exact SqT.const h1 _
    exact it_tup I1 hq (z _ _ e1 w1.rel (feeds_tup h1 s1))
  · subst ex en
    obtain ⟨p', ep, q0⟩ := Rv.seqS rx
    obtain ⟨p, exx, h1⟩ := rx
    subst exx
    cases ep
    cases r1
    exact it_lst I1 q0 (z _ _ e1 w1.rel (feeds_scr h1))
  · subst ex
    obtain ⟨p, xs, exx, h1, h2, s1⟩ := rx
    subst exx
    cases r1
    exact it_lst I1 (SqL.of h1) (z _ _ e1 w1.rel (feeds_lst h1 h2 s1))
  · subst ex
    cases (show x' = V.ref a from rx)
    cases r1
    obtain ⟨xs, h1, s1⟩ := w1.rel.cells a _ hS
    exact it_lst I1 (SqL.of h1) (z _ _ e1 w1.rel (feeds_cel hS fun S' q => q))
theorem sI_rng1 {tg b : Expr} {mb : E} {p pos : Pos} (hg : Gl X "range") (hm : X.mg "range" = none) (hb : PE X b (tEv G X.K mb)) (hs : starEach [b] X.env = [(false, eval b X.env)]) : PI X tg (.Call (.Name "range" p) [b] [] pos) (iEv G X.K (.rng1 mb)) :=
  PI.wk (pi_range1 hg hm (pa_cons hb pa_nil (by rw [hs]; rfl)) hs) fun σ' H R ⟨σ, S, hid, w, h⟩ => (t1 (a := mb) w h).mono fun x' H1 ⟨S1, x, e1, w1, rx, z⟩ => by
    obtain ⟨j, ej, z⟩ := intQ_inv z
    subst ej
    exact ⟨j, by rw [show x' = V.int j from rx], z.1.1, z.1.2, z.2 _ _ e1 w1.rel feeds_rng⟩
theorem sI_rng {tg a b : Expr} {ma mb : E} {p pos : Pos} (hg : Gl X "range") (hm : X.mg "range" = none) (ha : PE X a (tEv G X.K ma)) (hb : PE X b (tEv G X.K mb)) (hs : starEach [a, b] X.env = [(false, eval a X.env), (false, eval b X.env)]) (hs2 : starEach [b] X.env = [(false, eval b X.env)]) :
    PI X tg (.Call (.Name "range" p) [a, b] [] pos) (iEv G X.K (.rng ma mb)) :=
  PI.wk (pi_range2 hg hm (pa_cons ha (pa_cons hb pa_nil (by rw [hs2]; rfl)) (by rw [hs, hs2])) hs hs2) fun σ' H R ⟨σ, S, hid, w, h⟩ => (t2 (a := ma) (b := mb) w h).mono fun x' H1 q => q.mono fun y' H2 ⟨S2, x, y, e, w2, r1, r2, z⟩ => by
    obtain ⟨i, ei, z⟩ := intQ_inv z
    obtain ⟨j, ej, z⟩ := intQ_inv z
    subst ei ej
    exact ⟨i, j, by rw [show x' = V.int i from r1, show y' = V.int j from r2], z.1, z.2 _ _ e w2.rel feeds_rng⟩
end
end Li
set_option Elab.async false
set_option linter.all false
set_option maxRecDepth 100000
set_option maxHeartbeats 2000000
/-! LiLc: a list comprehension whose parts may use what stands where its block begins. -/
namespace LiC
open PySem PySem.Spec PyProof.Rows L2
section
variable {X : Cx}
/-- the block of a comprehension that begins at u -/
abbrev blkAt (X : Cx) (u : Shared) (G : Hp) (scope : Scope) (C : Addr) (cl : List (Str × Addr)) (fp : List Addr) : Cx := X.blk u G scope (compEnvC scope cl C X.env) fp
/-- what an iterator stands on is no cell -/
def NoCell (u : Shared) (fp : List Addr) : Prop := ∀ b ∈ fp, ∃ o, u.heap.get? b = some o ∧ ∀ v, o.data ≠ .cell v
theorem lc_in {pn : List (Addr × Obj)} {s0 : Shared} {σ : L2.St} {G0 : Hp} {Q : VK} {el tg it : Expr} {fs : List Expr} {scope : Scope} {own : List (Str × Nat)} {pos p2 : Pos} {wi : TI} {g : TG} {tt : TT} {te : TE} {use : Option (Value → Sem Unit)} {Qf : Value → Shared → Prop}
    (calm : X.calm = true) (nd : X.N.Nodup) (J0 : L2.Inv X pn σ G0 s0) (hi : PI X tg it wi) (ok : BlkOk X.N X.env.scope scope own)
    (hg : ∀ u G, L2.Inv X pn σ G u → ∀ C cl fp, NoCell u fp → PG (blkAt X u G scope C cl fp) tg g) (ht : ∀ u G, L2.Inv X pn σ G u → ∀ C cl fp, NoCell u fp → PTs (blkAt X u G scope C cl fp) fs tt) (he : ∀ u G, L2.Inv X pn σ G u → ∀ C cl fp, NoCell u fp → PE (blkAt X u G scope C cl fp) el te)
    (hs : ∀ x, foldedSetIterable it X.env x = pure x) (h : tLc wi g tt te (own.map (·.2)) σ G0 Q)
    (fin : ∀ D C u m G, L2.Inv X pn σ G u → Q (.ref D) G → u.heap.Ns C m → FpOk X pn G C → compPost (model X.prog X.w) X.A X.xe use Qf (.ref D) C (.ok .next) u) :
    wpAny (model X.prog X.w) X.A (comprehension (.ListComp el [⟨tg, it, fs, 0⟩] scope pos) scope X.env p2 (newList []) false (eval it X.env) use) Qf X.xe s0 := by
  have free : ∀ y ∈ scope.names, y.2 = .free → ∃ c, X.env.cells.lookup y.1 = some c := fun y hy e => (ok.free y hy e).elim (fun k => J0.ok.has _ (.inl k)) fun k => J0.ok.has _ (.inr k)
  refine wpAny_comprehension_free (use := use) rfl hs (closure_ok free) ok.kind (fun y hy e => by rw [ok.uniq y hy, e]) (thn (hi.run pn s0 σ G0 _ J0 h) fun xv u1 hx => thn hx fun itv u2 h2 => ?_)
  obtain ⟨ia, fp, tn, J, G2, rfl, J2, T, st2, f2, q⟩ := h2
  refine wpAny_newObj_type (newEnv_comp ?_) (by show 0 ≤ sizeLine; decide)
  have Dn : G2 u2.heap.objs.size = none := J2.hok.fresh (Nat.le_refl _)
  obtain ⟨W, ⟨m0, w0⟩, turn⟩ := q _ Dn
  -- behind the new list, which lies at D
  obtain ⟨D, eD⟩ : ∃ D, D = u2.heap.objs.size := ⟨_, rfl⟩
  rw [← eD] at w0 turn Dn ⊢
  obtain ⟨u3, e3⟩ : ∃ u3 : Shared, u3 = { u2 with heap := u2.heap.push { cls := .type "list", data := .seq ([] : List Value).toArray } } := ⟨_, rfl⟩
  obtain ⟨G3, eG⟩ : ∃ G3, G3 = upd G2 D (.lst []) := ⟨_, rfl⟩
  have J3 : L2.Inv X pn σ G3 u3 := by
    rw [e3, eG]
    refine J2.laid (t' := u2.toks) (fun b o e => Heap.get?_push_of_some _ e) (Nat.le_of_eq eD.symm) ⟨Nat.zero_le _, [], 0, .nil, ?_⟩
    rw [eD]
    exact Heap.get?_push_size _ rfl
  have grown : ∀ b o, u2.heap.get? b = some o → u3.heap.get? b = some o := fun b o e => by
    rw [e3]
    exact Heap.get?_push_of_some _ e
  have low : ∀ b ∈ fp, b < u2.heap.objs.size := fun b hb => (T.obj _ _ st2 b hb).elim fun o e => Heap.lt_size e.1
  have f3 : ∀ b ∈ fp, FpOk X pn G3 b ∧ b < u3.heap.objs.size := fun b hb => by
    refine ⟨⟨?_, (f2 b hb).2⟩, ?_⟩
    · rw [eG, upd_ne (by rw [eD]; exact Nat.ne_of_lt (low b hb))]
      exact (f2 b hb).1
    · obtain ⟨o, e, _⟩ := T.obj _ _ st2 b hb
      exact Heap.lt_size (grown b o e)
  have st3 : tn 0 u3.heap := T.keep _ _ _ st2 fun b _ o e => grown b o e
  have J4 := block_start J3 ok nd f3
  rw [← e3]
  obtain ⟨L, eL⟩ : ∃ L, L = u3.heap.objs.size := ⟨_, rfl⟩
  obtain ⟨cl, ecl⟩ : ∃ cl, cl = cellsFrom (u3.heap.objs.size + 1) scope.names (cloFrom X.env.cells scope.names []) := ⟨_, rfl⟩
  have nc : NoCell u3 fp := fun b hb => T.obj _ _ st3 b hb
  have pg := hg u3 G3 J3 L cl fp nc
  have pt := ht u3 G3 J3 L cl fp nc
  have pe := he u3 G3 J3 L cl fp nc
  obtain ⟨u4, e4⟩ : ∃ u4 : Shared, u4 = { u3 with heap := pushCells (u3.heap.push { cls := .type "dict", data := .dict #[] }) scope.names } := ⟨_, rfl⟩
  refine (?_ : codeAny _ _ (.compStart (.ListComp el [⟨tg, it, fs, 0⟩] scope pos) 0 (.ref ia) (.ref D) (compEnvC scope (cellsFrom (u3.heap.objs.size + 1) scope.names (cloFrom X.env.cells scope.names [])) u3.heap.objs.size X.env)) (compPost (model X.prog X.w) X.A X.xe use Qf (.ref D) u3.heap.objs.size) { u3 with heap := pushCells (u3.heap.push { cls := .type "dict", data := .dict #[] }) scope.names })
  rw [← e4, ← ecl, ← eL]
  rw [← e4, ← ecl, ← eL] at J4
  have none3 : ∀ b ∈ fp, G3 b = none := fun b hb => (f3 b hb).1.1
  have st4 : tn 0 u4.heap := T.keep _ _ _ st3 fun b _ o e => by
    rw [e4]
    exact pushCells_keeps _ _ _ _ (Heap.get?_push_of_some _ e)
  have still : ∀ {σ' : L2.St} {G' : Hp} {u' : Shared}, L2.Inv (blkAt X u3 G3 scope L cl fp) [] σ' G' u' → (∀ b ∈ fp, G' b = none) → ∀ b ∈ fp, FpOk (blkAt X u3 G3 scope L cl fp) [] G' b := fun {σ' G' u'} J' hn b hb =>
    ⟨hn b hb, (J'.ok.exf b hb).1, J'.ok.exfs b hb, .inl hb, fun x c e => (J'.ok.exf b hb).2 x c e, fun p hp => absurd (show p ∈ ([] : List (Addr × Obj)) ++ [] from hp) (by simp)⟩
  have walk : codeAny (model X.prog X.w) X.A (.compLoop (.ListComp el [⟨tg, it, fs, 0⟩] scope pos) 0 (.ref ia) (.ref D) (compEnvC scope cl L X.env)) (compPost (model X.prog X.w) X.A X.xe use Qf (.ref D) L) u4 := by
    refine compLoop_any (fun n u => ∃ i G, L2.Inv (blkAt X u3 G3 scope L cl fp) [] (L2.wipe σ (own.map (·.2))) G u ∧ tn i u.heap ∧ (∀ b ∈ fp, G b = none) ∧ W i n G) ?_ m0 ⟨0, G3, J4, st4, none3, by rw [eG]; exact w0⟩
    rintro n u5 ⟨i, G5, J5, st5, n5, w5⟩
    rcases turn i n G5 w5 with ⟨stop, qq⟩ | ⟨go, Nx, hNx, step⟩
    · refine thnF (T.done (blkAt X u3 G3 scope L cl fp) rfl rfl rfl calm i [] u5 _ G5 (fun _ _ => False) J5 (still J5 n5) st5 stop) fun r u6 ⟨hr, J6⟩ => ?_
      subst hr
      have J7 : L2.Inv X pn σ G5 u6 := J3.call' (ch := fp) J6.os J6.base J6.hok J6.bare fun b hb => ⟨(f3 b hb).1.2.2.2.1, (f3 b hb).1.2.1, (f3 b hb).1.2.2.2.2.1, (f3 b hb).1.2.2.2.2.2⟩
      have nL : G5 L = none := J6.free
      obtain ⟨m, hn, _⟩ := J6.loc
      exact fin D L u6 m G5 J7 qq hn (J3.fpOk (Nat.le_of_eq eL.symm) nL)
    · refine thnF (T.item (blkAt X u3 G3 scope L cl fp) rfl rfl rfl calm i [] u5 _ G5 (fun _ _ => False) J5 (still J5 n5) st5 go) fun r u6 ⟨v, hr, h6⟩ => ?_
      subst hr
      refine thnF h6 fun _ u7 ⟨x, G7, J7, r7, y7, st7, n7⟩ => ?_
      refine thnF (pg.run _ u7 _ G7 x v _ (J7.pinned (still J7 n7) (T.obj _ _ st7)) r7 (step x G7 y7)) fun _ u8 ⟨σ8, G8, J8, hw8, q8⟩ => ?_
      refine thnF (pt.run _ u8 σ8 G8 _ J8 q8) fun b u9 ⟨G9, J9, q9⟩ => ?_
      have last : ∀ {u' : Shared} {G' : Hp}, L2.Inv (blkAt X u3 G3 scope L cl fp) ([] ++ pinsAt fp u7.heap) σ8 G' u' → Nx G' → ∃ m, m < n ∧ ∃ i G, L2.Inv (blkAt X u3 G3 scope L cl fp) [] (L2.wipe σ (own.map (·.2))) G u' ∧ tn i u'.heap ∧ (∀ b ∈ fp, G b = none) ∧ W i m G := fun {u' G'} J' nx => by
        obtain ⟨m', hm, w'⟩ := hNx G' nx
        have pinned : ∀ b ∈ fp, ∀ o, u7.heap.get? b = some o → u'.heap.get? b = some o ∧ G' b = none := fun b hb o e => by
          obtain ⟨a1, a2, _⟩ := J'.pin (b, o) (List.mem_append_right _ (List.mem_append_right _ (mem_pinsAt hb e)))
          exact ⟨a1, a2⟩
        have len8 : (L2.wipe σ (own.map (·.2))).length = σ8.length := by rw [← hw8, L2.wipe_length]
        refine ⟨m', hm, i + 1, G', (J'.unpinned (pins := [])).weak len8 (fun j v e => ?_), T.keep _ _ _ st7 fun b hb o e => (pinned b hb o e).1, fun b hb => ?_, w'⟩
        · rw [← hw8] at e
          exact (L2.wipe_some e).1
        · exact (T.obj _ _ st7 b hb).elim fun o e => (pinned b hb o e.1).2
      cases b with
      | false =>
        rw [if_neg Bool.false_ne_true] at q9 ⊢
        exact last J9 q9
      | true =>
        rw [if_pos rfl] at q9 ⊢
        refine thnF (pe.run _ u9 σ8 G9 _ J9 q9) fun z u10 ⟨yv, G10, J10, r10, acc, hD10, hz10, nx⟩ => ?_
        exact app_ok (X := blkAt X u3 G3 scope L cl fp) J10 hD10 hz10 r10 fun u11 J11 => last J11 nx
  exact codeAny_compStart_list walk (T.self X.A 0 _ _ _ st4 walk)
/-- .. as a value -/
theorem pe_lcI {el tg it : Expr} {fs : List Expr} {scope : Scope} {own : List (Str × Nat)} {pos : Pos} {wi : TI} {g : TG} {tt : L2.St → TT} {te : L2.St → TE} {ag : L2.St → Prop} (calm : X.calm = true) (nd : X.N.Nodup) (hi : PI X tg it wi) (ok : BlkOk X.N X.env.scope scope own)
    (hg : ∀ pn σ u G, L2.Inv X pn σ G u → ag σ → ∀ C cl fp, NoCell u fp → PG (blkAt X u G scope C cl fp) tg g) (ht : ∀ pn σ u G, L2.Inv X pn σ G u → ag σ → ∀ C cl fp, NoCell u fp → PTs (blkAt X u G scope C cl fp) fs (tt σ)) (he : ∀ pn σ u G, L2.Inv X pn σ G u → ag σ → ∀ C cl fp, NoCell u fp → PE (blkAt X u G scope C cl fp) el (te σ))
    (hs : ∀ x, foldedSetIterable it X.env x = pure x) : PE X (.ListComp el [⟨tg, it, fs, 0⟩] scope pos) (fun σ H Q => ag σ ∧ tLc wi g (tt σ) (te σ) (own.map (·.2)) σ H Q) := by
  refine ⟨fun pn s σ H Q I ⟨hag, h⟩ => ?_⟩
  rw [eval_ListComp]
  refine lc_in calm nd I hi ok (fun u G J => hg pn σ u G J hag) (fun u G J => ht pn σ u G J hag) (fun u G J => he pn σ u G J hag) hs h fun D C u m G J q hn f => ⟨m, hn, fun h2 sb => ?_⟩
  obtain ⟨f0, f1, f2, f3, f4, f5⟩ := f
  exact ⟨.ref D, G, J.turned (t' := u.toks) (fun b o hb e => (sb.2 b hb).trans e) f0 f1 f3 f4 f5, rfl, q⟩
/-- name = [..] on one line, a local name -/
theorem ps_lcI {i : Nat} {y : Str} {py : Pos} {el tg it : Expr} {fs : List Expr} {scope : Scope} {own : List (Str × Nat)} {pos spos : Pos} {wi : TI} {g : TG} {tt : L2.St → TT} {te : L2.St → TE} {ag : L2.St → Prop} (calm : X.calm = true) (nd : X.N.Nodup) (hy : X.N[i]? = some y) (hyl : X.env.scope.names.lookup y = some .local)
    (hsw : swapsWith (.ListComp el [⟨tg, it, fs, 0⟩] scope pos) (some (.Name y py)) spos.line X.env = pure true) (hi : PI X tg it wi) (ok : BlkOk X.N X.env.scope scope own)
    (hg : ∀ pn σ u G, L2.Inv X pn σ G u → ag σ → ∀ C cl fp, NoCell u fp → PG (blkAt X u G scope C cl fp) tg g) (ht : ∀ pn σ u G, L2.Inv X pn σ G u → ag σ → ∀ C cl fp, NoCell u fp → PTs (blkAt X u G scope C cl fp) fs (tt σ)) (he : ∀ pn σ u G, L2.Inv X pn σ G u → ag σ → ∀ C cl fp, NoCell u fp → PE (blkAt X u G scope C cl fp) el (te σ))
    (hs : ∀ x, foldedSetIterable it X.env x = pure x) : PS X (.Assign [.Name y py] (.ListComp el [⟨tg, it, fs, 0⟩] scope pos) spos) (fun D σ H => ag σ ∧ tLc wi g (tt σ) (te σ) (own.map (·.2)) σ H fun x H1 => D.nx (σ.set i (some x)) H1) := by
  refine ⟨fun pn s σ H D I ⟨hag, h⟩ => ?_⟩
  rw [exec_Assign_Name_used _ _ _ _ hsw]
  refine wpAny_bind (wpAny_standAt (wpAny_bind ?_))
  refine (?_ : wpAny _ X.A (do let _ ← comprehension (.ListComp el [⟨tg, it, fs, 0⟩] scope pos) scope X.env (firstIterPos [⟨tg, it, fs, 0⟩] pos) (newList []) false (eval it X.env) (some (assign (.Name y py) X.env))) _ _ s)
  refine wpAny_bind (thn (lc_in (Qf := fun _ u => SP X pn D .next u) calm nd I hi ok (fun u G J => hg pn σ u G J hag) (fun u G J => ht pn σ u G J hag) (fun u G J => he pn σ u G J hag) hs h fun L C u m G J q hn f => ?_) fun _ u hq => wpAny_pure (wpAny_pure hq))
  refine (?_ : wpAny _ _ (assign (.Name y py) X.env (.ref L)) _ _ _)
  refine wpAny_assign_Name (store_ok2 (v := V.ref L) J nd hy (.inl hyl) rfl (fun u2 J2 ⟨a, sb, ha⟩ => ?_) (.inr hyl))
  obtain ⟨f0, f1, f2, f3, f4, f5⟩ := f
  have apart : C ≠ a := ha.elim (fun z => by rw [z]; exact f1) fun z e => f4 y a z e.symm
  exact ⟨m, hn.sameBut sb apart, fun h3 sb3 => ⟨_, G, J2.turned (t' := u2.toks) (fun b o hb e => (sb3.2 b hb).trans e) f0 f1 f3 f4 f5, q⟩⟩
end
end LiC
set_option Elab.async false
set_option linter.all false
set_option maxRecDepth 100000
set_option maxHeartbeats 2000000
/-! LiComp: comprehensions. -/
namespace Li
open PySem L2
theorem Ext.acc {S S' : Sto} {H H' : Hp} {D : Addr} {o : HO} (e : Ext S H S' H') (h : H D = none) : Ext S H S' (upd H' D o) where
  keep := fun p u hp sd k => by
    rw [upd_ne (ne_of_none hp h)]
    exact e.keep p u hp sd k
  dom := fun p hp => by
    rw [upd_ne fun (z : p = D) => hp (by rw [z]; exact h)]
    exact e.dom p hp
theorem Rel.hide {K : PySem.W.Frag} {hid : Hid} {S : Sto} {H : Hp} {D : Addr} {ys : List V} (r : Rel K hid S H) (h : H D = none) : Rel K (hid.add D) S (upd H D (.lst ys)) where
  cells := fun b c e => (r.cells b c e).keep (keeps_hid h) (upd_ne fun (z : b = D) => r.there e (by rw [z]; exact h))
  hids := fun p hp => by
    by_cases e : p = D
    · exact ⟨ys, by rw [e, upd_same]⟩
    · obtain ⟨xs, q⟩ := r.hids p (hp.resolve_right e)
      exact ⟨xs, by rw [upd_ne e]; exact q⟩
  dis := fun p hp => hp.elim (r.dis p) fun e => by rw [e]; exact r.free h
  tabs := tabs_new r.tabs h
theorem Rel.unhide {K : PySem.W.Frag} {hid : Hid} {S : Sto} {H : Hp} {D : Addr} (r : Rel K (hid.add D) S H) : Rel K hid S H where
  cells := fun b c e => (r.cells b c e).keep keeps_unhid rfl
  hids := fun p hp => r.hids p (.inl hp)
  dis := fun p hp => r.dis p (.inl hp)
  tabs := r.tabs
theorem Rel.accu {K : PySem.W.Frag} {hid : Hid} {S : Sto} {H : Hp} {D : Addr} {ys : List V} (r : Rel K (hid.add D) S H) (h : S D = none) {xs : List V} (hl : H D = some (.lst xs)) : Rel K (hid.add D) S (upd H D (.lst ys)) where
  cells := fun b c e => (r.cells b c e).keep keeps_acc (upd_ne fun z => by rw [z, h] at e; cases e)
  hids := fun p hp => by
    by_cases e : p = D
    · exact ⟨ys, by rw [e, upd_same]⟩
    · obtain ⟨xs, q⟩ := r.hids p hp
      exact ⟨xs, by rw [upd_ne e]; exact q⟩
  dis := r.dis
  tabs := tabs_put r.tabs (fun ps z => by rw [hl] at z; cases z) fun c q z => by rw [hl] at z; cases z
def SX.blk (G : SX) (σb : L2.St) (own : List Nat) : SX := { c := G.c.nox, S0 := fun _ => none, H0 := fun _ => none, P := fun _ => True, ag := fun σ => ∀ j, j ∉ own → σ[j]? = σb[j]?, T := G.T }
theorem Ext.nil {S : Sto} {H : Hp} : Ext (fun _ => none) (fun _ => none) S H := { keep := fun p o e _ _ => absurd (show (none : Option HO) = some o from e) (by simp), dom := fun p h => absurd rfl h }
def tBo (G : SX) (K : PySem.W.Frag) (e : Eo) : TT := fun σ' H Q => ∃ σ S hid, Wd G K σ S hid σ' H ∧ evO G.c e σ S (PoB K hid S H Q)
section
variable {X : Cx} {G : SX} {lvl : Nat} {nm : Nat → Str} {σ : Env} {S : Sto} {hid : Hid} {σ' : L2.St} {H : Hp} {K : PySem.W.Frag}
theorem PTs.wk {es : List Expr} {t t' : TT} (h : PTs X es t) (w : ∀ σ H Q, t' σ H Q → t σ H Q) : PTs X es t' := ⟨fun pins s σ H Q I q => h.run pins s σ H Q I (w _ _ _ q)⟩
theorem sB_none : PTs X [] (tBo G X.K .no) := PTs.wk pts_nil fun σ' H Q ⟨σ, S, hid, w, h⟩ => (show PoB X.K hid S H Q true S from h) H (Ext.refl S H) w.rel
theorem sB_some {a : Expr} {ma : E} (ha : PT X a (tTv G X.K ma)) : PTs X [a] (tBo G X.K (.so ma)) := PTs.wk (pts_one ha) fun σ' H Q h => h
theorem comp_rdG {melt : E} {t : Tg} {mi : It} {mifs : Eo} {own : List Nat} {Q : VK} {R : VQ} (ht : ∀ i, i ∈ tgs t → i ∈ own) (w : Wd G K σ S hid σ' H) (h : evE G.c (.comp melt t mi mifs own) σ S R)
    (fin : ∀ vs S5 D H2 xs, H D = none → Ext S H S5 H2 → Rel K (hid.add D) S5 H2 → S5 D = none → H2 D = some (.lst xs) → Rvs K (Mset S5 (hid.add D)) H2 vs xs → R (.lst vs) S5 → Q (.ref D) H2) :
    tLc (iEv G K mi) (gOf K t) (tBo (G.blk σ' own) K mifs) (tEv (G.blk σ' own) K melt) own σ' H Q := by
  refine ⟨σ, S, hid, w, evIt_mono mi (fun items chk S1 z J H1 e1 rel1 fd D hD => ?_) h⟩
  have env1 : Renv K (Mset S1 hid) H1 σ σ' := w.env.keep (e1.keeps hid)
  have hh : ∀ p, (hid p ∨ p = D) → hid p ∨ H1 p = none := fun p z => z.imp id fun e => by rw [e]; exact hD
  refine ⟨fun i m H2 => m = items.length - i ∧ i ≤ items.length ∧ ∃ S2 acc xs, Ext S1 H1 S2 H2 ∧ S2 D = none ∧ H2 D = some (.lst xs) ∧ Rvs K (Mset S2 (hid.add D)) H2 acc xs ∧ Rel K (hid.add D) S2 H2 ∧
    Renv K (Mset S2 (hid.add D)) H2 σ σ' ∧ compL (fun v S2 k => asg t v (Li.wipe σ own) fun σ2 => evO G.c.nox mifs σ2 S2 fun b S3 => brV (some b) (evE G.c.nox melt σ2 S3 (fun y S4 => k (some y) S4)) (k none S3)) chk (items.drop i) acc S2 (fun vs S5 => R (.lst vs) S5),
    ⟨items.length, by simp, Nat.zero_le _, S1, [], [], Ext.new S1 hD, rel1.free hD, upd_same, rfl, rel1.hide hD, env1.keep (keeps_hid hD), by rw [List.drop_zero]; exact z⟩, ?_⟩
  rintro i m H2 ⟨rfl, hi, S2, acc, xs, e2, sD, hD2, racc, rel2, env2, hc⟩
  by_cases hlt : i < items.length
  · rw [List.drop_eq_getElem_cons hlt] at hc
    obtain ⟨ck, st⟩ := hc
    obtain ⟨go, yl⟩ := fd.go hh e2 rel2 ck (show items[i]? = some items[i] by simp [hlt])
    refine .inr ⟨go, fun H' => i + 1 ≤ items.length ∧ ∃ S2 acc xs, Ext S1 H1 S2 H' ∧ S2 D = none ∧ H' D = some (.lst xs) ∧ Rvs K (Mset S2 (hid.add D)) H' acc xs ∧ Rel K (hid.add D) S2 H' ∧
      Renv K (Mset S2 (hid.add D)) H' σ σ' ∧ compL (fun v S2 k => asg t v (Li.wipe σ own) fun σ2 => evO G.c.nox mifs σ2 S2 fun b S3 => brV (some b) (evE G.c.nox melt σ2 S3 (fun y S4 => k (some y) S4)) (k none S3)) chk (items.drop (i + 1)) acc S2 (fun vs S5 => R (.lst vs) S5),
      fun H' q => ⟨items.length - (i + 1), by omega, rfl, q⟩, fun x H3 hy => ?_⟩
    obtain ⟨e3, rel3, rx, fr⟩ := yl x H3 hy
    have env3 := env2.keep (e3.keeps (hid.add D))
    refine asg_rd st (env3.wipe own) rx fun σ2 σ2' hk put => ?_
    have agb : (G.blk σ' own).ag σ2' := fun j hj => by rw [put.out j fun q => hj (ht j q), wipe_off hj]
    refine ⟨?_, σ2, S2, _, ⟨trivial, Ext.nil, rel3, put.env, agb, w.hT⟩, evO_mono mifs (fun b S3 z3 H4 e4 rel4 => ?_) hk⟩
    · refine wipe_eq (put.len.trans (L2.wipe_length _ _)) fun j hj => ?_
      rw [put.out j fun q => hj (ht j q), wipe_off hj]
    · have put4 := put.env.keep (e4.keeps (hid.add D))
      have env4 := env3.keep (e4.keeps (hid.add D))
      have e24 := e3.trans e4
      cases b with
      | true =>
        refine L2.iteT ?_
        refine ⟨σ2, S3, _, ⟨trivial, Ext.nil, rel4, put4, agb, w.hT⟩, evE_mono melt (fun y S4 z4 y' H5 e5 rel5 ry => ?_) z3⟩
        have e25 := e24.trans e5
        obtain ⟨h5, s5⟩ := e25.keep D _ hD2 so_lst sD
        have ka : Keeps (Mset S4 (hid.add D)) H5 (Mset S4 (hid.add D)) (upd H5 D (.lst (xs ++ [y']))) := keeps_acc
        refine ⟨xs, h5, by rw [← racc.length]; exact z4.1, hlt, S4, acc ++ [y], xs ++ [y'], (e2.trans e25).acc hD, s5, upd_same, ?_, rel5.accu s5 h5, ((env4.keep (e5.keeps _)).keep ka), z4.2⟩
        exact ((racc.keep (e25.keeps _)).keep ka).append ⟨y', [], rfl, ry.keep ka, rfl⟩
      | false =>
        refine L2.iteF ?_
        obtain ⟨h4, s4⟩ := e24.keep D _ hD2 so_lst sD
        exact ⟨hlt, S3, acc, xs, e2.trans e24, s4, h4, racc.keep (e24.keeps _), rel4, env4, z3⟩
  · have ei : i = items.length := by omega
    subst ei
    rw [List.drop_length] at hc
    exact .inl ⟨fd.stop hh e2 rel2 hc.1, fin acc S2 D H2 xs (e1.free hD) (e1.trans e2) rel2 sD hD2 racc hc.2⟩
theorem comp_rd {melt : E} {t : Tg} {mi : It} {mifs : Eo} {own : List Nat} {Q : VK} (ht : ∀ i, i ∈ tgs t → i ∈ own) (h : tEv G K (.comp melt t mi mifs own) σ' H Q) :
    tLc (iEv G K mi) (gOf K t) (tBo (G.blk σ' own) K mifs) (tEv (G.blk σ' own) K melt) own σ' H Q := by
  obtain ⟨σ, S, hid, w, h⟩ := h
  refine comp_rdG ht w h fun vs S5 D H2 xs hD e rel sD hD2 rv z => z (.ref D) H2 e rel.unhide ⟨D, xs, rfl, hD2, fun q => ?_, rv.keep keeps_unhid⟩
  rcases q with q | q
  · exact q sD
  · exact w.rel.nohid hD q
/-- the parts of a comprehension, where its block begins -/
structure BlkP (X : Cx) (G : SX) (scope : Scope) (own : List Nat) (tg : Expr) (fs : List Expr) (el : Expr) (t : Tg) (mifs : Eo) (melt : E) : Prop where
  hg : ∀ pn σ u G0, L2.Inv X pn σ G0 u → G.ag σ → ∀ C cl fp, LiC.NoCell u fp → PG (LiC.blkAt X u G0 scope C cl fp) tg (gOf X.K t)
  ht : ∀ pn σ u G0, L2.Inv X pn σ G0 u → G.ag σ → ∀ C cl fp, LiC.NoCell u fp → PTs (LiC.blkAt X u G0 scope C cl fp) fs (tBo (G.blk σ own) X.K mifs)
  he : ∀ pn σ u G0, L2.Inv X pn σ G0 u → G.ag σ → ∀ C cl fp, LiC.NoCell u fp → PE (LiC.blkAt X u G0 scope C cl fp) el (tEv (G.blk σ own) X.K melt)
theorem okx_blk (ok : Okx G lvl nm X) (σb : L2.St) (own : List Nat) (s : Shared) (H : Hp) (scope : Scope) (cenv : PySem.Env) (fp : List Addr) : Okx (G.blk σb own) lvl nm (X.blk s H scope cenv fp) where
  nd := ok.nd
  calm := ok.calm
  room := ok.room
  gok := ok.gok
  pas := fun pins σ H s e s' I h => by
    obtain ⟨_, _, _, _, _, _, _, _, _, _, _, _, _, _, _, _, _, _, _, z⟩ := h
    exact z.elim
  att := ok.att
theorem sE_comp (ok : Okx G lvl nm X) {elt tg iter : Expr} {ifs : List Expr} {scope : Scope} {own : List (Str × Nat)} {pos : Pos} {melt : E} {t : Tg} {mi : It} {mifs : Eo} (hi : PI X tg iter (iEv G X.K mi)) (blk : BlkOk X.N X.env.scope scope own) (ht : ∀ i, i ∈ tgs t → i ∈ own.map (·.2))
    (bp : BlkP X G scope (own.map (·.2)) tg ifs elt t mifs melt) (hs : ∀ x, foldedSetIterable iter X.env x = pure x) : PE X (.ListComp elt [⟨tg, iter, ifs, 0⟩] scope pos) (tEv G X.K (.comp melt t mi mifs (own.map (·.2)))) :=
  PE.wk (LiC.pe_lcI ok.calm ok.nd hi blk bp.hg bp.ht bp.he hs) fun σ' H Q h => ⟨let ⟨_, _, _, w, _⟩ := h; w.ag, comp_rd ht h⟩
end
end Li
set_option Elab.async false
set_option linter.all false
set_option maxRecDepth 100000
set_option maxHeartbeats 2000000
/-! LiStm: statements, one rule each. -/
namespace Li
open PySem L2
def lift (K : PySem.W.Frag) (hid : Hid) (S : Sto) (H : Hp) (D : Ends) : DE where
  nx := fun σ2 S2 => ∀ σ2' H2, Ext S H S2 H2 → Rel K hid S2 H2 → Renv K (Mset S2 hid) H2 σ2 σ2' → D.nx σ2' H2
  rt := fun v S2 => ∀ v' H2, Ext S H S2 H2 → Rel K hid S2 H2 → Rv K (Mset S2 hid) H2 v v' → D.rt v' H2
  bk := fun σ2 S2 => ∀ σ2' H2, Ext S H S2 H2 → Rel K hid S2 H2 → Renv K (Mset S2 hid) H2 σ2 σ2' → D.bk σ2' H2
  ct := fun σ2 S2 => ∀ σ2' H2, Ext S H S2 H2 → Rel K hid S2 H2 → Renv K (Mset S2 hid) H2 σ2 σ2' → D.ct σ2' H2
def tSv (G : SX) (K : PySem.W.Frag) (b : Sm) : TS := fun D σ' H => ∃ σ S hid, Wd G K σ S hid σ' H ∧ evS G.c b (lift K hid S H D) σ S
def tSs (G : SX) (K : PySem.W.Frag) (b : Ss) : TS := fun D σ' H => ∃ σ S hid, Wd G K σ S hid σ' H ∧ evSs G.c b (lift K hid S H D) σ S
theorem lift_le {K : PySem.W.Frag} {hid : Hid} {S S2 : Sto} {H H2 : Hp} {D : Ends} (e : Ext S H S2 H2) : (lift K hid S H D).le (lift K hid S2 H2 D) :=
  ⟨fun _ _ z σ' H' e' => z σ' H' (e.trans e'), fun _ _ z σ' H' e' => z σ' H' (e.trans e'), fun _ _ z σ' H' e' => z σ' H' (e.trans e'), fun _ _ z σ' H' e' => z σ' H' (e.trans e')⟩
section
variable {X : Cx} {G : SX} [AgT G] {lvl : Nat} {nm : Nat → Str} {σ : Env} {S : Sto} {hid : Hid} {σ' : L2.St} {H : Hp} {K : PySem.W.Frag}
theorem sS_nil : PSs X [] (tSs G X.K .nil) := PSs.wk pss_nil fun D σ' H ⟨σ, S, hid, w, h⟩ => h σ' H (Ext.refl S H) w.rel w.env
theorem sS_cons {st : Stmt} {rest : List Stmt} {m : Sm} {r : Ss} (h1 : PS X st (tSv G X.K m)) (h2 : PSs X rest (tSs G X.K r)) : PSs X (st :: rest) (tSs G X.K (.cons m r)) :=
  PSs.wk (pss_cons h1 h2) fun D σ' H ⟨σ, S, hid, w, h⟩ => ⟨σ, S, hid, w, evS_mono m (D := { lift X.K hid S H D with nx := evSs G.c r (lift X.K hid S H D) }) (D' := lift X.K hid S H { D with nx := tSs G X.K r D })
    ⟨fun σ2 S2 z σ2' H2 e rel env => ⟨σ2, S2, hid, ⟨w.p, w.ex.trans e, rel, env, AgT.all _, w.hT⟩, evSs_mono r (lift_le e) z⟩, fun _ _ z => z, fun _ _ z => z, fun _ _ z => z⟩ h⟩
theorem sS_pass {pos : Pos} : PS X (.Pass pos) (tSv G X.K .pass) := PS.wk ps_pass fun D σ' H ⟨σ, S, hid, w, h⟩ => h σ' H (Ext.refl S H) w.rel w.env
theorem sS_brk {pos : Pos} : PS X (.Break pos) (tSv G X.K .brk) := PS.wk ps_break fun D σ' H ⟨σ, S, hid, w, h⟩ => h σ' H (Ext.refl S H) w.rel w.env
theorem sS_cont {pos : Pos} : PS X (.Continue pos) (tSv G X.K .cont) := PS.wk ps_continue fun D σ' H ⟨σ, S, hid, w, h⟩ => h σ' H (Ext.refl S H) w.rel w.env
theorem sS_set {i : Nat} {x : Str} {e : Expr} {me : E} {pos pos' : Pos} (hN : X.N.Nodup) (hi : X.N[i]? = some x) (hx : Loc X.env.scope x) (he : PE X e (tEv G X.K me)) (hs : swapsWith e (some (.Name x pos')) pos.line X.env = pure false) (hf : X.fn x = true ∨ X.env.scope.names.lookup x = some .local) :
    PS X (.Assign [.Name x pos'] e pos) (tSv G X.K (.set i me)) :=
  PS.wk (ps_set hN hi hx he hs hf) fun D σ' H ⟨σ, S, hid, w, h⟩ => (t1 (a := me) w h).mono fun x' H1 ⟨S1, v, e1, w1, r, z⟩ => z _ H1 e1 w1.rel (w1.env.set i r)
theorem sS_setLc (ok : Okx G lvl nm X) {i : Nat} {y : Str} {py spos : Pos} {elt tg iter : Expr} {ifs : List Expr} {scope : Scope} {own : List (Str × Nat)} {pos : Pos} {melt : E} {t : Tg} {mi : It} {mifs : Eo} (hy : X.N[i]? = some y) (hyl : X.env.scope.names.lookup y = some .local)
    (hsw : swapsWith (.ListComp elt [⟨tg, iter, ifs, 0⟩] scope pos) (some (.Name y py)) spos.line X.env = pure true) (hi : PI X tg iter (iEv G X.K mi)) (blk : BlkOk X.N X.env.scope scope own) (ht : ∀ i, i ∈ tgs t → i ∈ own.map (·.2))
    (bp : BlkP X G scope (own.map (·.2)) tg ifs elt t mifs melt) (hs : ∀ x, foldedSetIterable iter X.env x = pure x) :
    PS X (.Assign [.Name y py] (.ListComp elt [⟨tg, iter, ifs, 0⟩] scope pos) spos) (tSv G X.K (.set i (.comp melt t mi mifs (own.map (·.2))))) :=
  PS.wk (LiC.ps_lcI ok.calm ok.nd hy hyl hsw hi blk bp.hg bp.ht bp.he hs) fun D σ' H ⟨σ, S, hid, w, h⟩ => ⟨w.ag, comp_rd ht ((t1 (a := .comp melt t mi mifs (own.map fun q : Str × Nat => q.2)) (R := fun v S1 => (lift X.K hid S H D).nx (σ.set i (some v)) S1) w h).mono fun x' H1 ⟨S1, v, e1, w1, r, z⟩ => z _ H1 e1 w1.rel (w1.env.set i r))⟩
theorem sS_unp {ts : List Nat} {es : List Expr} {k : Nat} {p2 : Pos} {e : Expr} {me : E} {pos : Pos} (he : PE X e (tEv G X.K me)) (hg : PG X (.Tuple es k p2) (gOf X.K (.many ts))) (hs : swapsWithSole [.Tuple es k p2] e pos.line X.env = pure false) (hw : swappedStores [.Tuple es k p2] e X.env = pure none)
    (h1 : (assignEach [.Tuple es k p2] X.env).map (·.2) = [assign (.Tuple es k p2) X.env]) : PS X (.Assign [.Tuple es k p2] e pos) (tSv G X.K (.unp ts me)) :=
  PS.wk (ps_asg he hg hs hw h1) fun D σ' H ⟨σ, S, hid, w, h⟩ => (t1 (a := me) w h).mono fun x' H1 ⟨S1, v, e1, w1, r, z⟩ => asg_rd z w1.env r fun σ2 σ2' hk put => hk σ2' H1 e1 w1.rel put.env
theorem sS_par {i j : Nat} {x y : Str} {a b : Expr} {ma mb : E} {px py pt pos : Pos} {kt k2 : Nat} {pt2 : Pos} (hc : X.calm = true) (hN : X.N.Nodup) (hi : X.N[i]? = some x) (hj : X.N[j]? = some y) (hij : i ≠ j) (hx : X.env.scope.names.lookup x = some .local) (hy : X.env.scope.names.lookup y = some .local)
    (ha : PE X a (tEv G X.K ma)) (hb : PE X b (tEv G X.K mb)) (st1 : starEach [a, b] X.env = (false, eval a X.env) :: starEach [b] X.env) (st2 : starEach [b] X.env = (false, eval b X.env) :: starEach [] X.env)
    (hw : swappedStores [.Tuple [.Name x px, .Name y py] kt pt] (.Tuple [a, b] k2 pt2) X.env = pure (some [x, y])) (hs : swapsWithSole [.Tuple [.Name x px, .Name y py] kt pt] (.Tuple [a, b] k2 pt2) pos.line X.env = pure false) :
    PS X (.Assign [.Tuple [.Name x px, .Name y py] kt pt] (.Tuple [a, b] k2 pt2) pos) (tSv G X.K (.par i j false false ma mb)) :=
  PS.wk (ps_par hc hN hi hj hij hx hy (pa_cons ha (pa_cons hb pa_nil st2) st1) hw hs) fun D σ' H ⟨σ, S, hid, w, h⟩ => (t2 (a := ma) (b := mb) w h).mono fun x' H1 q => q.mono fun y' H2 ⟨S2, v, u, e, w2, r1, r2, z⟩ =>
    ⟨x', y', rfl, z _ H2 e w2.rel ((w2.env.set i r1).set j r2)⟩
theorem iop_mulX : OpR X (inplaceOp .Mult) (rI CMulX fun i j => .int (i * j)) := opI fun _ _ _ _ _ _ _ hc q => PyProof.Rows.imul_int q hc.ok
def rAug (K : PySem.W.Frag) (op : Operator) : R2 := fun x y H Q => ∃ S hid v u, Rel K hid S H ∧ Rv K (Mset S hid) H v x ∧ Rv K (Mset S hid) H u y ∧ augV op v u fun w => PoE K hid S H Q w S
theorem op_aug (op : Operator) : PIp X op (rAug X.K op) := by
  intro pins s σ H x y v u Q I rx ry ⟨S, hid, a, b, rel, r1, r2, h⟩
  have two : ∀ {C : Int → Int → Prop} {g : Int → Int → Int}, OpR X (inplaceOp op) (rI C fun i j => .int (g i j)) → int2 C g (fun w => PoE X.K hid S H Q w S) a b → wpAny (model X.prog X.w) X.A (inplaceOp op v u) (EP X pins σ Q) X.xe s := fun {C g} ho hh => by
    unfold int2 at hh
    split at hh
    · rename_i i j
      exact ho pins s σ H _ _ v u Q I rx ry ⟨i, j, r1, r2, hh.1, hh.2.here rel rfl⟩
    · exact hh.elim
  cases op with
  | Add => exact two (C := fun _ _ => True) (g := fun i j => i + j) (fun pins s σ H x y v u Q I rx ry ⟨i, j, e1, e2, _, q⟩ => iop_add pins s σ H x y v u Q I rx ry ⟨i, j, e1, e2, q⟩) h
  | Sub => exact two (C := fun _ _ => True) (g := fun i j => i - j) (fun pins s σ H x y v u Q I rx ry ⟨i, j, e1, e2, _, q⟩ => iop_sub pins s σ H x y v u Q I rx ry ⟨i, j, e1, e2, q⟩) h
  | Mult => exact two (C := CMulX) (g := fun i j => i * j) iop_mulX h
  | _ => exact h.elim
theorem sS_aug {i : Nat} {x : Str} {e : Expr} {me : E} {op : Operator} {pos pos' : Pos} (hN : X.N.Nodup) (hi : X.N[i]? = some x) (hx : Loc X.env.scope x) (he : PE X e (tEv G X.K me)) (hf : X.fn x = true ∨ X.env.scope.names.lookup x = some .local) :
    PS X (.AugAssign (.Name x pos') op e pos) (tSv G X.K (.aug i op me)) :=
  PS.wk (ps_aug hN hi hx he (op_aug op) hf) fun D σ' H ⟨σ, S, hid, w, h⟩ => by
    obtain ⟨v, ev, h⟩ := slotQ_inv h
    obtain ⟨x', ex, r0⟩ := w.env.2 i v ev
    refine ⟨x', ex, (t1 (a := me) w h).mono fun y' H1 ⟨S1, u, e1, w1, r, z⟩ => ⟨S1, hid, v, u, w1.rel, r0.keep (e1.keeps hid), r, augV_mono (fun q z v' H2 e2 rel2 r2 => ?_) z⟩⟩
    exact z _ H2 (e1.trans e2) rel2 ((w1.env.keep (e2.keeps hid)).set i r2)
theorem sS_sub {a i e : Expr} {ma mi me : E} {pos tp : Pos} (he : PE X e (tEv G X.K me)) (ha : PE X a (tEv G X.K ma)) (hi : PE X i (tEv G X.K mi))
    (hs : swapsWithSole [.Subscript a i tp] e pos.line X.env = pure false) (hw : swappedStores [.Subscript a i tp] e X.env = pure none) (h1 : (assignEach [.Subscript a i tp] X.env).map (·.2) = [assign (.Subscript a i tp) X.env])
    (hp : ∀ v, assign (.Subscript a i tp) X.env v = (do
      let ov ← holding [v] (eval a X.env)
      let iv ← holding [v, ov] (eval i X.env)
      standAt tp
      holding [v, ov, iv] (setItem ov iv v)
      release [v, ov, iv] [])) : PS X (.Assign [.Subscript a i tp] e pos) (tSv G X.K (.sub ma mi me)) :=
  PS.wk (ps_asg he (pg_sub ha hi set_list hp) hs hw h1) fun D σ' H ⟨σ, S, hid, w, h⟩ => (t1 (a := me) w h).mono fun v' H1 ⟨S1, v, e1, w1, r1, z⟩ => (t2 (a := ma) (b := mi) w1 z).mono fun x' H2 q => q.mono fun y' H3 ⟨S3, x, y, e3, w3, rx, ry, z⟩ => by
    obtain ⟨p, ep, z1⟩ := adrQ_inv z
    obtain ⟨k, ek, z2⟩ := intQ_inv z1
    obtain ⟨vs, hS, z3⟩ := celQ_inv z2
    obtain ⟨j, ej, z4⟩ := optQ_inv z3
    subst ep ek
    obtain ⟨xs, h1, s1⟩ := w3.rel.cells p _ hS
    refine ⟨p, xs, k, j, rx, ry, h1, by rw [← s1.length]; exact ej, ?_⟩
    have kp : Keeps (Mset S3 hid) H3 (Mset (S3.set p (.lst (vs.set j v))) hid) (upd H3 p (.lst (xs.set j v'))) := keeps_put hS
    exact z4 σ' _ ((e1.trans e3).trans (Ext.put hS)) (w3.rel.put hS ⟨_, upd_same, (s1.keep kp).set ((r1.keep (e3.keeps hid)).keep kp) j⟩) (w3.env.keep kp)
theorem putF_zip {M : Addr → Prop} {f : Str} {v : Val} {x : V} (r : Rv K M H v x) : ∀ {fs : List (Str × Val)} {xs : List V}, Rvs K M H (fs.map (·.2)) xs → ∃ ys, putF f x ((fs.map (·.1)).zip xs) = ((putV f v fs).map (·.1)).zip ys ∧ Rvs K M H ((putV f v fs).map (·.2)) ys
  | [], xs, h => by
    cases (show xs = [] from h)
    exact ⟨[x], rfl, x, [], rfl, r, rfl⟩
  | (g, u) :: fs, xs, ⟨y, ys, e, h1, h2⟩ => by
    subst e
    by_cases hg : g = f
    · refine ⟨x :: ys, ?_, ?_⟩
      · show (if g = f then (g, x) :: _ else _) = ((if g = f then (g, v) :: fs else _).map _).zip _
        rw [if_pos hg, if_pos hg]
        rfl
      · show Rvs K M H ((if g = f then (g, v) :: fs else _).map _) _
        rw [if_pos hg]
        exact ⟨x, ys, rfl, r, h2⟩
    · obtain ⟨zs, e1, r1⟩ := putF_zip r h2
      refine ⟨y :: zs, ?_, ?_⟩
      · show (if g = f then _ else (g, y) :: putF f x ((fs.map (·.1)).zip ys)) = ((if g = f then _ else (g, u) :: putV f v fs).map _).zip _
        rw [if_neg hg, if_neg hg, e1]
        rfl
      · show Rvs K M H ((if g = f then _ else (g, u) :: putV f v fs).map _) _
        rw [if_neg hg]
        exact ⟨y, zs, rfl, h1, r1⟩
theorem sS_att (ok : Okx G lvl nm X) {o e : Expr} {mo me : E} {f : Str} {pos pos' : Pos} (he : PE X e (tEv G X.K me)) (ho : PE X o (tEv G X.K mo)) (hs : swapsWith e (some (.Attribute o f pos')) pos.line X.env = pure false) : PS X (.Assign [.Attribute o f pos'] e pos) (tSv G X.K (.att mo f me)) :=
  PS.wk (ps_fld ho he hs) fun D σ' H ⟨σ, S, hid, w, h⟩ => (t2 (a := me) (b := mo) w h).mono fun v' H1 q => q.mono fun x' H2 ⟨S2, v, x, e2, w2, rv, rx, z⟩ => by
    obtain ⟨p, ep, z1⟩ := adrQ_inv z
    obtain ⟨C, fs, hS, zA, zl, z2⟩ := objQ_inv z1
    subst ep
    obtain ⟨dx, xs, h1, s1⟩ := w2.rel.cells p _ hS
    obtain ⟨c1, c2⟩ := ok.att C f zA
    have l1 := s1.length
    rw [List.length_map] at l1
    refine ⟨p, C, dx, _, rx, h1, c1, c2, by rw [List.length_zip, List.length_map, ← l1, Nat.min_self]; exact zl, ?_⟩
    obtain ⟨ys, e1, r1⟩ := putF_zip (f := f) rv s1
    rw [e1]
    have kp : Keeps (Mset S2 hid) H2 (Mset (S2.set p (.obj C (putV f v fs))) hid) (upd H2 p (.ins C dx (((putV f v fs).map (·.1)).zip ys))) := keeps_put hS
    exact z2 σ' _ (e2.trans (Ext.put hS)) (w2.rel.put hS ⟨dx, ys, upd_same, r1.keep kp⟩) (w2.env.keep kp)
theorem sS_ex {e : Expr} {me : E} {pos : Pos} (he : PE X e (tEv G X.K me)) (hs : swapsWith e none pos.line X.env = pure false) : PS X (.Expr e pos) (tSv G X.K (.ex me)) :=
  PS.wk (ps_expr he hs) fun D σ' H ⟨σ, S, hid, w, h⟩ => (t1 (a := me) w h).mono fun x' H1 ⟨S1, v, e1, w1, r, z⟩ => z σ' H1 e1 w1.rel w1.env
/-! ### cells end -/
mutual
theorem sbst_rv {a : Addr} {vs : List Val} {xs : List V} (hh : ¬ hid a) (hA : H a = some (.lst xs)) (r : Rvs K (Mset (S.del a) hid) H vs xs) : ∀ {v : Val} {x : V}, Rv K (Mset S hid) H v x → Rv K (Mset (S.del a) hid) H (sbst a (.lst vs) v) x
  | .non, _, h => h
  | .bl _, _, h => h
  | .int _, _, h => h
  | .str _, _, h => h
  | .scr ns, _, h => Rv.keep (v := .scr ns) keeps_del h
  | .ins C ns us, _, h => Rv.keep (v := .ins C ns us) keeps_del h
  | .dct ks us, _, h => Rv.keep (v := .dct ks us) keeps_del h
  | .clo f F, _, h => Rv.keep (v := .clo f F) keeps_del h
  | .adr b, x, h => by
    show Rv K _ H (if b = a then _ else _) x
    by_cases e : b = a
    · rw [if_pos e]
      refine ⟨a, xs, ?_, hA, fun z => ?_, r⟩
      · rw [← e]
        exact h
      · rcases z with z | z
        · exact z Sto.del_same
        · exact hh z
    · rw [if_neg e]
      exact h
  | .tup us, _, ⟨p, ys, e, h1, h2⟩ => ⟨p, ys, e, h1.imp (fun z => (keeps_del.keep p _ z.1 so_tup z.2)) id, sbsts_rv hh hA r h2⟩
  | .lst us, _, ⟨p, ys, e, h1, h2, h3⟩ => ⟨p, ys, e, h1, (keeps_del.keep p _ h1 so_lst h2).2, sbsts_rv hh hA r h3⟩
theorem sbsts_rv {a : Addr} {vs : List Val} {xs : List V} (hh : ¬ hid a) (hA : H a = some (.lst xs)) (r : Rvs K (Mset (S.del a) hid) H vs xs) : ∀ {v : List Val} {x : List V}, Rvs K (Mset S hid) H v x → Rvs K (Mset (S.del a) hid) H (sbsts a (.lst vs) v) x
  | [], _, h => h
  | v :: us, _, ⟨x, y, e, h1, h2⟩ => ⟨x, y, e, sbst_rv hh hA r h1, sbsts_rv hh hA r h2⟩
end
theorem cellOf_inv {i : Nat} {a : Addr} {vs : List Val} (h : cellOf σ S i = some (a, vs)) : S a = some (.lst vs) := by
  unfold cellOf at h
  split at h
  · split at h
    · rename_i e
      cases h
      exact e
    · cases h
  · cases h
theorem frz_rd {Q : VQ} : ∀ {fr : List Nat} {v : Val} {S : Sto} {x : V}, frz σ fr v S Q → Rel K hid S H → Rv K (Mset S hid) H v x → ∃ u S2, Q u S2 ∧ Ext S H S2 H ∧ Rel K hid S2 H ∧ Rv K (Mset S2 hid) H u x
  | [], v, S, x, h, rel, r => ⟨v, S, h, Ext.refl S H, rel, r⟩
  | i :: fr, v, S, x, h, rel, r => by
    have h' : frz σ fr (frz1 (cellOf σ S i) v S).1 (frz1 (cellOf σ S i) v S).2 Q := h
    cases e : cellOf σ S i with
    | none =>
      rw [e] at h'
      exact frz_rd (fr := fr) h' rel r
    | some q =>
      obtain ⟨a, vs⟩ := q
      rw [e] at h'
      have hS := cellOf_inv e
      obtain ⟨xs, hA, rs⟩ := rel.cells a _ hS
      have hh : ¬ hid a := fun z => by have := rel.dis a z; rw [hS] at this; cases this
      obtain ⟨u, S2, q1, q2, q3, q4⟩ := frz_rd (fr := fr) h' (rel.del a) (sbst_rv hh hA (rs.keep keeps_del) r)
      exact ⟨u, S2, q1, (Ext.del S H a).trans q2, q3, q4⟩
theorem sS_ret {e : Expr} {me : E} {fr : List Nat} {pos : Pos} (he : PE X e (tEv G X.K me)) : PS X (.Return (some e) pos) (tSv G X.K (.ret me fr)) :=
  PS.wk (ps_ret he) fun D σ' H ⟨σ, S, hid, w, h⟩ => (t1 (a := me) w h).mono fun x' H1 ⟨S1, v, e1, w1, r, z⟩ => by
    obtain ⟨u, S2, q1, q2, q3, q4⟩ := frz_rd z w1.rel r
    exact q1 x' H1 (e1.trans q2) q3 q4
theorem sS_retn {fr : List Nat} {pos : Pos} : PS X (.Return none pos) (tSv G X.K (.retn fr)) :=
  PS.wk ps_retN fun D σ' H ⟨σ, S, hid, w, h⟩ => by
    obtain ⟨u, S2, q1, q2, q3, q4⟩ := frz_rd (x := .non) h w.rel rfl
    exact q1 .non H q2 q3 q4
theorem sS_if {t : Expr} {a b : List Stmt} {mt : E} {ma mb : Ss} {pos : Pos} (ht : PT X t (tTv G X.K mt)) (ha : PSs X a (tSs G X.K ma)) (hb : PSs X b (tSs G X.K mb)) : PS X (.If t a b pos) (tSv G X.K (.ifs mt ma mb)) :=
  PS.wk (ps_if ht ha hb) fun D σ' H ⟨σ, S, hid, w, h⟩ => (tT (a := mt) w h).mono fun k H1 ⟨S1, e1, w1, z⟩ => by
    cases k with
    | true => exact iteT ⟨σ, S1, hid, w1, evSs_mono ma (lift_le e1) z⟩
    | false => exact iteF ⟨σ, S1, hid, w1, evSs_mono mb (lift_le e1) z⟩
theorem sS_while {t : Expr} {b : List Stmt} {mt : E} {mb : Ss} {pos : Pos} (hp : PassesOwn (model X.prog X.w) X.A X.env X.xe) (ht : PT X t (tTv G X.K mt)) (hb : PSs X b (tSs G X.K mb)) : PS X (.While t b [] pos) (tSv G X.K (.whl mt mb)) :=
  PS.wk (ps_while hp ht hb) fun D σ' H ⟨σ, S, hid, w, h⟩ => by
    obtain ⟨n, h⟩ := h
    refine ⟨fun m σ2' H2 => ∃ σ2 S2, Wd G X.K σ2 S2 hid σ2' H2 ∧ Ext S H S2 H2 ∧ whlN (fun σ S Q => evE G.c mt σ S (tst Q)) (evSs G.c mb) m (lift X.K hid S H D) σ2 S2, ⟨n, σ, S, w, Ext.refl S H, h⟩, ?_⟩
    rintro m σ2' H2 ⟨σ2, S2, w2, e2, h2⟩
    cases m with
    | zero => exact h2.elim
    | succ m =>
      refine (tT (a := mt) w2 h2).mono fun k H3 ⟨S3, e3, w3, z⟩ => ?_
      cases k with
      | true =>
        refine iteT ⟨fun σ4' H4 => ∃ σ4 S4, Wd G X.K σ4 S4 hid σ4' H4 ∧ Ext S H S4 H4 ∧ whlN (fun σ S Q => evE G.c mt σ S (tst Q)) (evSs G.c mb) m (lift X.K hid S H D) σ4 S4, fun σ4' H4 q => ⟨m, Nat.lt_succ_self m, q⟩, σ2, S3, hid, w3, ?_⟩
        refine evSs_mono mb (D := { lift X.K hid S H D with nx := whlN (fun σ S Q => evE G.c mt σ S (tst Q)) (evSs G.c mb) m (lift X.K hid S H D), ct := whlN (fun σ S Q => evE G.c mt σ S (tst Q)) (evSs G.c mb) m (lift X.K hid S H D), bk := (lift X.K hid S H D).nx }) ⟨fun σ4 S4 q σ4' H4 e4 rel4 env4 => ?_, fun v S4 q v' H4 e4 => q v' H4 ((e2.trans e3).trans e4), fun σ4 S4 q σ4' H4 e4 => q σ4' H4 ((e2.trans e3).trans e4), fun σ4 S4 q σ4' H4 e4 rel4 env4 => ?_⟩ z
        · exact ⟨σ4, S4, ⟨w3.p, w3.ex.trans e4, rel4, env4, AgT.all _, w3.hT⟩, (e2.trans e3).trans e4, q⟩
        · exact ⟨σ4, S4, ⟨w3.p, w3.ex.trans e4, rel4, env4, AgT.all _, w3.hT⟩, (e2.trans e3).trans e4, q⟩
      | false => exact iteF (z σ2' H3 (e2.trans e3) w3.rel w3.env)
theorem sS_for {tg iter : Expr} {b : List Stmt} {t : Tg} {mi : It} {mb : Ss} {pos : Pos} (hp : PassesOwn (model X.prog X.w) X.A X.env X.xe) (hc : X.calm = true) (hi : PI X tg iter (iEv G X.K mi)) (hg : PG X tg (gOf X.K t)) (hb : PSs X b (tSs G X.K mb)) (hs : ∀ x, foldedSetIterable iter X.env x = pure x) :
    PS X (.For tg iter b [] pos) (tSv G X.K (.forr t mi mb)) :=
  PS.wk (ps_for hp hc hi hg hb hs) fun D σ' H ⟨σ, S, hid, w, h⟩ => by
    refine ⟨σ, S, hid, w, evIt_mono mi (fun items chk S1 z J H1 e1 rel1 fd => ?_) h⟩
    have w1 := w.step e1 rel1
    have hh : ∀ p, hid p → hid p ∨ H1 p = none := fun p z => .inl z
    refine ⟨fun i m σ2' H2 => m = items.length - i ∧ i ≤ items.length ∧ ∃ σ2 S2, Wd G X.K σ2 S2 hid σ2' H2 ∧ Ext S1 H1 S2 H2 ∧ forL (fun v D' σ' S' => asg t v σ' fun σ2 => evSs G.c mb D' σ2 S') chk (items.drop i) (lift X.K hid S H D) σ2 S2,
      ⟨items.length, by simp, Nat.zero_le _, σ, S1, w1, Ext.refl S1 H1, by rw [List.drop_zero]; exact z⟩, ?_⟩
    rintro i m σ2' H2 ⟨rfl, hle, σ2, S2, w2, e2, hf⟩
    by_cases hlt : i < items.length
    · rw [List.drop_eq_getElem_cons hlt] at hf
      obtain ⟨ck, st⟩ := hf
      obtain ⟨go, yl⟩ := fd.go hh e2 w2.rel ck (show items[i]? = some items[i] by simp [hlt])
      refine .inr ⟨go, fun σ4' H4 => i + 1 ≤ items.length ∧ ∃ σ4 S4, Wd G X.K σ4 S4 hid σ4' H4 ∧ Ext S1 H1 S4 H4 ∧ forL (fun v D' σ' S' => asg t v σ' fun σ2 => evSs G.c mb D' σ2 S') chk (items.drop (i + 1)) (lift X.K hid S H D) σ4 S4,
        fun σ4' H4 q => ⟨items.length - (i + 1), by omega, rfl, q⟩, fun x H3 hy => ?_⟩
      obtain ⟨e3, rel3, rx, fr⟩ := yl x H3 hy
      have w3 := w2.step e3 rel3
      refine asg_rd st w3.env rx fun σ3 σ3' hk put => ⟨σ3, S2, hid, ⟨w3.p, w3.ex, rel3, put.env, AgT.all _, w3.hT⟩, ?_⟩
      have e13 := e2.trans e3
      refine evSs_mono mb (D := { lift X.K hid S H D with nx := forL (fun v D' σ' S' => asg t v σ' fun σ2 => evSs G.c mb D' σ2 S') chk (items.drop (i + 1)) (lift X.K hid S H D), ct := forL (fun v D' σ' S' => asg t v σ' fun σ2 => evSs G.c mb D' σ2 S') chk (items.drop (i + 1)) (lift X.K hid S H D), bk := (lift X.K hid S H D).nx })
        ⟨fun σ4 S4 q σ4' H4 e4 rel4 env4 => ?_, fun v S4 q v' H4 e4 => q v' H4 (e1.trans (e13.trans e4)), fun σ4 S4 q σ4' H4 e4 => q σ4' H4 (e1.trans (e13.trans e4)), fun σ4 S4 q σ4' H4 e4 rel4 env4 => ?_⟩ hk
      · exact ⟨hlt, σ4, S4, ⟨w3.p, w3.ex.trans e4, rel4, env4, AgT.all _, w3.hT⟩, e13.trans e4, q⟩
      · exact ⟨hlt, σ4, S4, ⟨w3.p, w3.ex.trans e4, rel4, env4, AgT.all _, w3.hT⟩, e13.trans e4, q⟩
    · have ei : i = items.length := by omega
      subst ei
      rw [List.drop_length] at hf
      exact .inl ⟨fd.stop hh e2 w2.rel hf.1, hf.2 σ2' H2 (e1.trans e2) w2.rel w2.env⟩
end
end Li
set_option Elab.async false
set_option linter.all false
set_option maxRecDepth 100000
set_option maxHeartbeats 2000000
/-! LiZip: zip(a, b, strict=True) of two rows alike long, lists or tuples, at the model's level. -/
namespace LiZ
open PySem
section
variable {P : Program} {w : World} {A : Around} {E : Value → Shared → Prop} {s : Shared}
theorem endOr_item {it : Addr} {fp : List Addr} {n i : Nat} {Pv : Nat → Value → Prop} {St : Nat → Heap → Prop} {Q : Option Value → Shared → Prop} (D : Draws P w A it fp n Pv St) (hi : i < n) (st : St i s.heap)
    (q : ∀ x h' tk, Pv i x → St (i + 1) h' → Heap.SameBut it s.heap h' → Q (some x) { s with heap := h', toks := tk }) : wpAny (model P w) A (Builtin.SmallTypes.nextOrEnd (.ref it)) Q E s := by
  unfold Builtin.SmallTypes.nextOrEnd
  exact wpAny_bind (wpAny_attempt (D.item i s _ _ hi st fun x h' tk a b c => wpAny_pure (q x h' tk a b c)))
theorem endOr_done {it : Addr} {fp : List Addr} {n : Nat} {Pv : Nat → Value → Prop} {St : Nat → Heap → Prop} {Q : Option Value → Shared → Prop} (D : Draws P w A it fp n Pv St) (st : St n s.heap)
    (q : ∀ h', Heap.ExtBut it s.heap h' → Q none { s with heap := h' }) : wpAny (model P w) A (Builtin.SmallTypes.nextOrEnd (.ref it)) Q E s := by
  unfold Builtin.SmallTypes.nextOrEnd
  refine wpAny_bind (wpAny_attempt (D.done s _ _ st fun h' e k he => ?_))
  obtain ⟨o, ho, hc⟩ := he
  refine wpAny_bind (wpAny_isInstance (T := "StopIteration") (b := true) ⟨o, ho, hc⟩ isSubtype_stop ?_)
  exact wpAny_pure (q h' k)
theorem stop_now {α : Type} {Q : α → Shared → Prop} (hh : A.handled = none) (q : ∀ h' e, (∀ b o, s.heap.get? b = some o → h'.get? b = some o) → (∃ o, h'.get? e = some o ∧ o.cls = .type "StopIteration") → E (.ref e) { s with heap := h' }) :
    wpAny (model P w) A (Builtin.SmallTypes.stopIteration : Sem α) Q E s := by
  show wpAny _ _ (newExc (.type "StopIteration") [] >>= fun e => raiseNew e) _ _ _
  refine wpAny_bind ?_
  simp only [newExc, newTuple]
  refine wpAny_bind (wpAny_newObj_type ?_ (by size_fits))
  refine wpAny_bind (m := firstArgMember _ _) (wpAny_of_eq (a := Value.none) (by first | rfl | (simp only [firstArgMember]; rfl)) ?_)
  refine wpAny_newObj_type ?_ (by size_fits)
  simp only [raiseNew]
  refine wpAny_bind (wpAny_handled ?_)
  rw [hh]
  refine wpAny_bind (wpAny_pure (wpAny_throw (q _ _ (fun b o e => Heap.get?_push_of_some _ (Heap.get?_push_of_some _ e)) ⟨_, Heap.get?_push_size _ rfl, rfl⟩)))
end
/-- a zip that wants its rows alike long -/
abbrev ZipS (h : Heap) (z TI TO : Addr) (f0 : Value) : Prop := h.get? z = some { cls := .type "zip", data := .fields #[f0, .bool false, .bool true, .ref TI, .ref TO] }
section
variable {P : Program} {w : World} {A : Around} {E : Value → Shared → Prop} {s : Shared} {z TI TO i1 i2 : Addr} {fp1 fp2 : List Addr} {n i : Nat} {P1 P2 : Nat → Value → Prop} {St1 St2 : Nat → Heap → Prop} {a1 a2 : Value}
theorem next_item {Q : Value → Shared → Prop} (S : ZipSep2 z TI TO i1 i2 fp1 fp2) (D1 : Draws P w A i1 fp1 n P1 St1) (D2 : Draws P w A i2 fp2 n P2 St2)
    (hz : ZipS s.heap z TI TO .none) (hI : IsTupOf2 s.heap TI (.ref i1) (.ref i2)) (hO : IsTupOf2 s.heap TO a1 a2) (t1 : St1 i s.heap) (t2 : St2 i s.heap) (hi : i < n)
    (q : ∀ x1 x2 h' tk, P1 i x1 → P2 i x2 → ZipS h' z TI TO (rawInt s.heap.objs.size) → IsTupOf2 h' TO x1 x2 → St1 (i + 1) h' → St2 (i + 1) h' → IsTupOf2 h' s.heap.objs.size x1 x2 → h'.objs.size = s.heap.objs.size + 1 →
      (∀ c o, c ≠ z → c ≠ TO → c ≠ i1 → c ≠ i2 → s.heap.get? c = some o → h'.get? c = some o) → Q (.ref s.heap.objs.size) { s with heap := h', toks := tk }) :
    wpAny (model P w) A (Builtin.«zip.__next__» ⟨[.ref z], []⟩) (fun fin s' => ∃ v, fin = .done (.ret v) ∧ Q v s') E s := by
  obtain ⟨m, gn, dr, t0, os⟩ := s
  show wpAny _ A (field (.ref z) 2 >>= _) _ E _
  refine wpAny_bind (wpAny_field hz rfl (x := .bool true) rfl ?_)
  show wpAny _ A (field (.ref z) 3 >>= _) _ E _
  refine wpAny_bind (wpAny_field hz rfl (x := .ref TI) rfl (wpAny_bind (wpAny_seqItems hI rfl ?_)))
  show wpAny _ A (Builtin.SmallTypes.ownedTupleIsFree (.ref z) >>= _) _ E _
  refine wpAny_bind ?_
  unfold Builtin.SmallTypes.ownedTupleIsFree
  refine wpAny_bind (wpAny_field hz rfl (x := .none) rfl (wpAny_pure ?_))
  simp only [if_true]
  refine wpAny_bind (wpAny_rule (wpAny_bind (wpAny_field hz rfl (x := .ref TO) rfl (wpAny_bind (wpAny_setField_rec hz (by simp) fun m0 z0 k0 => ?_)))))
  replace z0 : ZipS m0 z TI TO .ellipsis := z0
  replace k0 : Heap.SameBut z m m0 := k0
  refine wpAny_bind ?_
  simp only [List.zipIdx_cons, List.zipIdx_nil, List.forIn_cons, List.forIn_nil]
  refine wpAny_bind (wpAny_bind (wpAny_onRaise ?_))
  show wpAny _ A (Builtin.SmallTypes.nextOrEnd (.ref i1)) _ _ ⟨m0, gn, dr, t0, os⟩
  refine endOr_item D1 hi (D1.over t1 k0 S.zf1) fun x1 u1 tk1 p1 r1 c1 => ?_
  replace c1 : Heap.SameBut i1 m0 u1 := c1
  have o1 : IsTupOf2 u1 TO a1 a2 := c1.extBut _ _ S.Ti1 (k0.extBut _ _ S.TOz hO)
  refine wpAny_bind (wpAny_seqItems (s := ⟨u1, gn, dr, tk1, os⟩) o1 rfl (wpAny_bind (updateSeq_IsTupOf2 (s := ⟨u1, gn, dr, tk1, os⟩) o1 fun m1 o1' k1 => ?_)))
  replace o1' : IsTupOf2 m1 TO x1 a2 := o1'
  replace k1 : Heap.SameBut TO u1 m1 := k1
  refine wpAny_bind (wpAny_letGo (wpAny_pure (wpAny_bind (wpAny_bind (wpAny_onRaise ?_)))))
  show wpAny _ A (Builtin.SmallTypes.nextOrEnd (.ref i2)) _ _ ⟨m1, gn, dr, tk1, os⟩
  refine endOr_item D2 hi (D2.over (D2.over (D2.over t2 k0 S.zf2) c1 S.sep1_2) k1 S.Tf2) fun x2 u2 tk2 p2 r2 c2 => ?_
  replace c2 : Heap.SameBut i2 m1 u2 := c2
  have o2 : IsTupOf2 u2 TO x1 a2 := c2.extBut _ _ S.Ti2 o1'
  refine wpAny_bind (wpAny_seqItems (s := ⟨u2, gn, dr, tk2, os⟩) o2 rfl (wpAny_bind (updateSeq_IsTupOf2 (s := ⟨u2, gn, dr, tk2, os⟩) o2 fun m2 o2' k2 => ?_)))
  replace o2' : IsTupOf2 m2 TO x1 x2 := o2'
  replace k2 : Heap.SameBut TO u2 m2 := k2
  refine wpAny_bind (wpAny_letGo (wpAny_pure (wpAny_pure (wpAny_bind (wpAny_seqItems (s := ⟨m2, gn, dr, tk2, os⟩) o2' rfl (wpAny_bind (wpAny_newTuple ?_)))))))
  have sz : m2.objs.size = m.objs.size := by rw [k2.1, c2.1, k1.1, c1.1, k0.1]
  have zz : ZipS m2 z TI TO .ellipsis := k2.extBut _ _ S.TOz.symm (c2.extBut _ _ S.zi2 (k1.extBut _ _ S.TOz.symm (c1.extBut _ _ S.zi1 z0)))
  have old : ∀ c o, c ≠ z → c ≠ TO → c ≠ i1 → c ≠ i2 → m.get? c = some o → m2.get? c = some o := fun c o h1 h2 h3 h4 e => k2.extBut _ _ h2 (c2.extBut _ _ h4 (k1.extBut _ _ h2 (c1.extBut _ _ h3 (k0.extBut _ _ h1 e))))
  have f1 : St1 (i + 1) m2 := D1.over (D1.over (D1.over r1 k1 S.Tf1) c2 S.sep2_1) k2 S.Tf1
  have f2 : St2 (i + 1) m2 := D2.over r2 k2 S.Tf2
  have lt : z < m2.objs.size := Heap.lt_size zz
  show wpAny _ A (Builtin.SmallTypes.ownedTupleHandOut (.ref z) (.ref m2.objs.size) >>= _) _ E ⟨m2.push { cls := .type "tuple", data := .seq #[x1, x2] }, gn, dr, tk2, os⟩
  refine wpAny_bind ?_
  unfold Builtin.SmallTypes.ownedTupleHandOut
  have z3 : ZipS (m2.push { cls := .type "tuple", data := .seq #[x1, x2] }) z TI TO .ellipsis := Heap.get?_push_of_some _ zz
  refine wpAny_bind (wpAny_setField_rec z3 (by simp) fun m4 z4 k4 => ?_)
  replace z4 : ZipS m4 z TI TO (rawInt m2.objs.size) := z4
  refine wpAny_setField_rec z4 (by simp) fun m5 z5 k5 => ?_
  replace z5 : ZipS m5 z TI TO (rawInt m2.objs.size) := z5
  replace k4 : Heap.SameBut z (m2.push { cls := .type "tuple", data := .seq #[x1, x2] }) m4 := k4
  replace k5 : Heap.SameBut z m4 m5 := k5
  have up : ∀ c o, c ≠ z → m2.get? c = some o → m5.get? c = some o := fun c o h1 e => k5.extBut _ _ h1 (k4.extBut _ _ h1 (Heap.get?_push_of_some _ e))
  have tn : IsTupOf2 m5 m2.objs.size x1 x2 := k5.extBut _ _ (Nat.ne_of_gt lt) (k4.extBut _ _ (Nat.ne_of_gt lt) (Heap.get?_push_size _ rfl))
  have s5 : m5.objs.size = m2.objs.size + 1 := by rw [k5.1, k4.1, Heap.size_push]
  rw [sz] at z5 tn s5
  refine wpAny_pure ⟨_, rfl, ?_⟩
  show Q (.ref m2.objs.size) ⟨m5, gn, dr, tk2, os⟩
  rw [sz]
  exact q x1 x2 m5 tk2 p1 p2 z5 (up _ _ S.TOz o2') (D1.frame _ _ _ f1 fun b hb o e => up b o (fun y => S.zf1 (y ▸ hb)) e) (D2.frame _ _ _ f2 fun b hb o e => up b o (fun y => S.zf2 (y ▸ hb)) e) tn s5 fun c o h1 h2 h3 h4 e => up c o h1 (old c o h1 h2 h3 h4 e)
theorem next_end {Q : PySem.Fin → Shared → Prop} (hh : A.handled = none) (S : ZipSep2 z TI TO i1 i2 fp1 fp2) (D1 : Draws P w A i1 fp1 n P1 St1) (D2 : Draws P w A i2 fp2 n P2 St2)
    (hz : ZipS s.heap z TI TO .none) (hI : IsTupOf2 s.heap TI (.ref i1) (.ref i2)) (hO : IsTupOf2 s.heap TO a1 a2) (t1 : St1 n s.heap) (t2 : St2 n s.heap)
    (q : ∀ h' e, (∀ c o, c ≠ z → c ≠ TO → c ≠ i1 → c ≠ i2 → s.heap.get? c = some o → h'.get? c = some o) → (∃ o, h'.get? e = some o ∧ o.cls = .type "StopIteration") → E (.ref e) { s with heap := h' }) :
    wpAny (model P w) A (Builtin.«zip.__next__» ⟨[.ref z], []⟩) Q E s := by
  obtain ⟨m, gn, dr, t0, os⟩ := s
  show wpAny _ A (field (.ref z) 2 >>= _) _ E _
  refine wpAny_bind (wpAny_field hz rfl (x := .bool true) rfl ?_)
  show wpAny _ A (field (.ref z) 3 >>= _) _ E _
  refine wpAny_bind (wpAny_field hz rfl (x := .ref TI) rfl (wpAny_bind (wpAny_seqItems hI rfl ?_)))
  show wpAny _ A (Builtin.SmallTypes.ownedTupleIsFree (.ref z) >>= _) _ E _
  refine wpAny_bind ?_
  unfold Builtin.SmallTypes.ownedTupleIsFree
  refine wpAny_bind (wpAny_field hz rfl (x := .none) rfl (wpAny_pure ?_))
  simp only [if_true]
  refine wpAny_bind (wpAny_rule (wpAny_bind (wpAny_field hz rfl (x := .ref TO) rfl (wpAny_bind (wpAny_setField_rec hz (by simp) fun m0 z0 k0 => ?_)))))
  replace z0 : ZipS m0 z TI TO .ellipsis := z0
  replace k0 : Heap.SameBut z m m0 := k0
  refine wpAny_bind ?_
  simp only [List.zipIdx_cons, List.zipIdx_nil, List.forIn_cons, List.forIn_nil]
  refine wpAny_bind (wpAny_bind (wpAny_onRaise ?_))
  show wpAny _ A (Builtin.SmallTypes.nextOrEnd (.ref i1)) _ _ ⟨m0, gn, dr, t0, os⟩
  refine endOr_done D1 (D1.over t1 k0 S.zf1) fun u1 c1 => ?_
  replace c1 : Heap.ExtBut i1 m0 u1 := c1
  have z1 : ZipS u1 z TI TO .ellipsis := c1 _ _ S.zi1 z0
  have x2 : St2 n u1 := D2.frame _ _ _ (D2.over t2 k0 S.zf2) fun b hb o e => c1 b o (fun y => S.sep1_2 (y ▸ hb)) e
  refine wpAny_bind (wpAny_setField_rec (s := ⟨u1, gn, dr, t0, os⟩) z1 (by simp) fun m1 z2 k1 => ?_)
  replace k1 : Heap.SameBut z u1 m1 := k1
  refine wpAny_bind ?_
  refine (?_ : wpAny _ A (_ >>= _) _ _ _)
  refine wpAny_bind ?_
  show wpAny _ A (forIn [((Value.ref i2), 1)] PUnit.unit _) _ _ _
  simp only [List.forIn_cons, List.forIn_nil]
  replace x2 : St2 n m1 := D2.over x2 k1 S.zf2
  refine wpAny_bind (wpAny_bind (endOr_done (s := ⟨m1, gn, dr, t0, os⟩) D2 x2 fun u2 c2 => ?_))
  replace c2 : Heap.ExtBut i2 m1 u2 := c2
  refine wpAny_pure (wpAny_pure (wpAny_bind (wpAny_rule ?_)))
  refine stop_now (s := ⟨u2, gn, dr, t0, os⟩) hh fun m3 e k3 he => ?_
  exact q m3 e (fun c o h1 h2 h3 h4 y => k3 _ _ (c2 _ _ h4 (k1.extBut _ _ h1 (c1 _ _ h3 (k0.extBut _ _ h1 y))))) he
theorem py_item {Q : Option Value → Shared → Prop} (S : ZipSep2 z TI TO i1 i2 fp1 fp2) (D1 : Draws P w A.in1 i1 fp1 n P1 St1) (D2 : Draws P w A.in1 i2 fp2 n P2 St2)
    (hz : ZipS s.heap z TI TO .none) (hI : IsTupOf2 s.heap TI (.ref i1) (.ref i2)) (hO : IsTupOf2 s.heap TO a1 a2) (t1 : St1 i s.heap) (t2 : St2 i s.heap) (hi : i < n)
    (q : ∀ x1 x2 h' tk, P1 i x1 → P2 i x2 → ZipS h' z TI TO (rawInt s.heap.objs.size) → IsTupOf2 h' TO x1 x2 → St1 (i + 1) h' → St2 (i + 1) h' → IsTupOf2 h' s.heap.objs.size x1 x2 → h'.objs.size = s.heap.objs.size + 1 →
      (∀ c o, c ≠ z → c ≠ TO → c ≠ i1 → c ≠ i2 → s.heap.get? c = some o → h'.get? c = some o) → Q (some (.ref s.heap.objs.size)) { s with heap := h', toks := tk }) : wpAny (model P w) A (pyNext (.ref z)) Q E s := by
  have ty : s.TypeIs (.ref z) "zip" := ⟨_, hz, rfl⟩
  unfold pyNext
  exact wpAny_bind (wpAny_attempt (wpAny_callSpecial?_slot (name := Str.ofString "__next__") ty F.slot_zip_next (wpAny_call_entry F.slot_zip_next ty F.entry_zip_next
    (next_item S D1 D2 hz hI hO t1 t2 hi fun x1 x2 h' tk b1 b2 b3 b4 b5 b6 b7 b8 b9 => wpAny_pure (q x1 x2 h' tk b1 b2 b3 b4 b5 b6 b7 b8 b9)) (F.args_zip_next_1 _))))
theorem py_end {Q : Option Value → Shared → Prop} (hh : A.handled = none) (S : ZipSep2 z TI TO i1 i2 fp1 fp2) (D1 : Draws P w A.in1 i1 fp1 n P1 St1) (D2 : Draws P w A.in1 i2 fp2 n P2 St2)
    (hz : ZipS s.heap z TI TO .none) (hI : IsTupOf2 s.heap TI (.ref i1) (.ref i2)) (hO : IsTupOf2 s.heap TO a1 a2) (t1 : St1 n s.heap) (t2 : St2 n s.heap)
    (q : ∀ h', (∀ c o, c ≠ z → c ≠ TO → c ≠ i1 → c ≠ i2 → s.heap.get? c = some o → h'.get? c = some o) → Q none { s with heap := h' }) : wpAny (model P w) A (pyNext (.ref z)) Q E s := by
  have ty : s.TypeIs (.ref z) "zip" := ⟨_, hz, rfl⟩
  unfold pyNext
  refine wpAny_bind (wpAny_attempt (wpAny_callSpecial?_slot (name := Str.ofString "__next__") ty F.slot_zip_next (wpAny_call_entry F.slot_zip_next ty F.entry_zip_next (next_end (A := A.in1) hh S D1 D2 hz hI hO t1 t2 fun h' e k he => ?_) (F.args_zip_next_1 _))))
  obtain ⟨o, ho, hc⟩ := he
  exact wpAny_bind (wpAny_isInstance (T := "StopIteration") (b := true) ⟨o, ho, hc⟩ isSubtype_stop (wpAny_pure (q _ k)))
theorem let_go {elts : List Expr} {k : Nat} {pos : Pos} {T : Addr} {Q : Unit → Shared → Prop} (hz : ZipS s.heap z TI TO (rawInt T)) (q : ∀ h', ZipS h' z TI TO .none → Heap.SameBut z s.heap h' → Q () { s with heap := h' }) :
    wpAny (model P w) A (letOwnedTupleGo (.Tuple elts k pos) (.ref z) (.ref T)) Q E s := by
  unfold letOwnedTupleGo
  refine wpAny_bind (wpAny_load hz ?_)
  refine (?_ : wpAny _ A (if (["enumerate", "zip", "dict_itemiterator", "dict_reverseitemiterator", "odict_iterator", "itertools.zip_longest", "itertools.pairwise"].contains "zip" && (#[rawInt T, .bool false, .bool true, .ref TI, .ref TO] : Array Value)[0]? == some (rawInt T)) = true then _ else _) Q E s)
  rw [if_pos (by simp)]
  refine wpAny_bind (wpAny_rule (?_ : wpAny _ A (setField (.ref z) 0 .none) Q E s))
  exact wpAny_setField_rec hz (by simp) fun h' hz' hs' => q h' hz' hs'
theorem py_iter {f0 : Value} {Q : Value → Shared → Prop} (hz : ZipS s.heap z TI TO f0) (h : Q (.ref z) s) : wpAny (model P w) A (pyIter (.ref z)) Q E s := by
  have ty : s.TypeIs (.ref z) "zip" := ⟨_, hz, rfl⟩
  refine wpAny_pyIter_slot ty F.slot_zip_iter (wpAny_call_entry F.slot_zip_iter ty F.entry_zip_iter (?_ : wpAny _ _ (ret (.ref z)) _ _ s) (F.args_zip_iter_1 _))
  exact wpAny_pure ⟨_, rfl, "zip", _, ty, F.slot_zip_next.lookup, h⟩
end
theorem type_call (a b c : Value) : checkTypeCall "zip" ⟨[a, b], [(Str.ofString "strict", c)]⟩ = pure () := by kernel_rfl
theorem new_call (a b c : Value) : checkBuiltinCall "zip.__new__" ⟨[.type "zip", a, b], [(Str.ofString "strict", c)]⟩ = pure () := by kernel_rfl
theorem init_args (obj a b c : Value) : argsOk "object.__init__" ⟨[obj, a, b], [(Str.ofString "strict", c)]⟩ := by unfold argsOk; kernel_rfl
abbrev hT2 (h : Heap) (o1 o2 : Obj) : Heap := ((h.push o1).push o2).push { cls := .type "tuple", data := .seq #[.ref h.objs.size, .ref (h.push o1).objs.size] }
abbrev hO2 (h : Heap) (o1 o2 : Obj) : Heap := (hT2 h o1 o2).push { cls := .type "tuple", data := .seq #[.none, .none] }
abbrev hZ2 (h : Heap) (o1 o2 : Obj) : Heap := (hO2 h o1 o2).push { cls := .type "zip", data := .fields #[.none, .bool false, .bool true, .ref ((h.push o1).push o2).objs.size, .ref (hT2 h o1 o2).objs.size] }
theorem meets_new {v1 v2 : Value} {o1 o2 : Obj} {H1 H2 : Heap → Prop} (B1 : Begins v1 o1 H1) (B2 : Begins v2 o2 H2) :
    Meets (Builtin.«zip.__new__» ⟨[.type "zip", v1, v2], [(Str.ofString "strict", .bool true)]⟩) (fun _ R s => (H1 s.heap ∧ H2 s.heap) ∧ R (.ok (.ret (.ref (hO2 s.heap o1 o2).objs.size))) { s with heap := hZ2 s.heap o1 o2 }) :=
  .of_wp fun prog w A R s h => by
    obtain ⟨m, gn, dr, tk, os⟩ := s
    obtain ⟨⟨h1, h2⟩, h⟩ := h
    have hsub := sub_zip
    have e2 : (Str.ofString "strict" != ("strict" : Str)) = false := by decide +kernel
    have q1 : ∀ {A' : Around} {E : Value → Shared → Prop} {Q : Value → Shared → Prop}, Q (.ref m.objs.size) ⟨m.push o1, gn, dr, tk, os⟩ → wpAny (model prog w) A' (pyIter v1) Q E ⟨m, gn, dr, tk, os⟩ :=
      fun q => B1.iter prog w _ _ ⟨m, gn, dr, tk, os⟩ _ h1 q
    have q2 : ∀ {A' : Around} {E : Value → Shared → Prop} {Q : Value → Shared → Prop}, Q (.ref (m.push o1).objs.size) ⟨(m.push o1).push o2, gn, dr, tk, os⟩ → wpAny (model prog w) A' (pyIter v2) Q E ⟨m.push o1, gn, dr, tk, os⟩ :=
      fun q => B2.iter prog w _ _ ⟨m.push o1, gn, dr, tk, os⟩ _ (B2.keeps _ _ h2 fun b o' e => Heap.get?_push_of_some _ e) q
    wp_walk using q1, q2
    exact ⟨_, rfl, h⟩
end LiZ
set_option Elab.async false
set_option linter.all false
set_option maxRecDepth 100000
set_option maxHeartbeats 2000000
/-! LiZipI: zip(a, b, strict=True) and enumerate(x) as what a loop walks. -/
namespace LiZ
open PySem
section
variable {P : Program} {w : World} {A : Around} {E : Value → Shared → Prop} {s : Shared}
theorem begins {v1 v2 : Value} {o1 o2 : Obj} {H1 H2 : Heap → Prop} {Q : Value → Shared → Prop} (B1 : Begins v1 o1 H1) (B2 : Begins v2 o2 H2) (h1 : H1 s.heap) (h2 : H2 s.heap)
    (h : ∀ h', ZipS h' (s.heap.objs.size + 4) (s.heap.objs.size + 2) (s.heap.objs.size + 3) .none → IsTupOf2 h' (s.heap.objs.size + 2) (.ref s.heap.objs.size) (.ref (s.heap.objs.size + 1)) →
      IsTupOf2 h' (s.heap.objs.size + 3) .none .none → h'.get? s.heap.objs.size = some o1 → h'.get? (s.heap.objs.size + 1) = some o2 →
      (∀ c o, s.heap.get? c = some o → h'.get? c = some o) → Q (.ref (s.heap.objs.size + 4)) { s with heap := h' }) : wpAny (model P w) A (call (.type "zip") [v1, v2] [(Str.ofString "strict", .bool true)]) Q E s := by
  refine callType_newKw F.called_zip (by decide) (type_call _ _ _) (new_call _ _ _) (fun obj => init_args obj _ _ _) F.entry_zip_new (meets_new B1 B2) ⟨⟨h1, h2⟩, ?_⟩
  have n1 : (s.heap.push o1).objs.size = s.heap.objs.size + 1 := by rw [Heap.size_push]
  have n2 : ((s.heap.push o1).push o2).objs.size = s.heap.objs.size + 2 := by rw [Heap.size_push, n1]
  have n3 : (hT2 s.heap o1 o2).objs.size = s.heap.objs.size + 3 := by rw [Heap.size_push, n2]
  have n4 : (hO2 s.heap o1 o2).objs.size = s.heap.objs.size + 4 := by rw [Heap.size_push, n3]
  have c4 : (hZ2 s.heap o1 o2).get? (hO2 s.heap o1 o2).objs.size = some _ := Heap.get?_push_size _ rfl
  have c3 : (hZ2 s.heap o1 o2).get? (hT2 s.heap o1 o2).objs.size = some _ := Heap.get?_push_of_some _ (Heap.get?_push_size _ rfl)
  have c2 : (hZ2 s.heap o1 o2).get? ((s.heap.push o1).push o2).objs.size = some _ := Heap.get?_push_of_some _ (Heap.get?_push_of_some _ (Heap.get?_push_size _ rfl))
  have c0 : (hZ2 s.heap o1 o2).get? s.heap.objs.size = some o1 := Heap.get?_push_of_some _ (Heap.get?_push_of_some _ (Heap.get?_push_of_some _ (Heap.get?_push_of_some _ (Heap.get?_push_size _ B1.free))))
  have c1 : (hZ2 s.heap o1 o2).get? (s.heap.push o1).objs.size = some o2 := Heap.get?_push_of_some _ (Heap.get?_push_of_some _ (Heap.get?_push_of_some _ (Heap.get?_push_size _ B2.free)))
  rw [n4, n3, n2] at c4
  rw [n3] at c3
  rw [n2, n1] at c2
  rw [n1] at c1
  refine (?_ : _ ∧ _)
  rw [n4]
  exact ⟨⟨_, c4, rfl⟩, h _ c4 c2 c3 c0 c1 fun c o e => Heap.get?_push_of_some _ (Heap.get?_push_of_some _ (Heap.get?_push_of_some _ (Heap.get?_push_of_some _ (Heap.get?_push_of_some _ e))))⟩
/-- f(e, .., k = v) of a built-in class -/
theorem callTyKw {M : Model} {env : PySem.Env} {pos : Pos} {T : String} {e : Expr} {rest : List Expr} {kws : List Keyword} {Q : Value → Shared → Prop}
    (h : wpAny M A (spliced (backTo pos (starEach (e :: rest) env))) (fun vs s1 => wpAny M A (evalAll ((backToKw pos (keywordEach kws env)).map (·.2))) (fun ws s2 => wpAny M A (call (.type T) vs (((backToKw pos (keywordEach kws env)).filterMap (·.1)).zip ws)) Q E s2) E s1) E s)
    (he : starEach (e :: rest) env = (false, eval e env) :: starEach rest env) (hpl : (backTo pos (starEach (e :: rest) env)).any (·.1) = false) (hall : (backToKw pos (keywordEach kws env)).all (·.1.isSome) = true) (hno : (backToKw pos (keywordEach kws env)).any (·.1.isNone) = false) :
    wpAny M A (callWith pos (.type T) [] (backTo pos (starEach (e :: rest) env)) (backToKw pos (keywordEach kws env))) Q E s := by
  unfold callWith
  refine wpAny_bind (wpAny_holding (PyProof.Rows.evalArgs_kw2 hall (L2.thn h fun vs s1 h1 => L2.thn h1 fun ws s2 h2 => ?_) he))
  refine wpAny_bind (wpAny_standAt ?_)
  simp only [hpl, hno, Bool.or_false]
  refine wpAny_bind (wpAny_pure ?_)
  exact wpAny_bind (L2.thn h2 fun r s3 hr => wpAny_bind (wpAny_holding (wpAny_point (wpAny_pure hr))))
end
end LiZ
namespace L2
open PySem
/-- a row: a list or a tuple -/
def SqB (k : Bool) (K : PySem.W.Frag) (H : Hp) (a : Addr) (xs : List V) : Prop := match k with
  | false => SqL K H a xs
  | true => SqT K H a xs
def RowAt (k : Bool) (h : Heap) (a : Addr) (vs : Array Value) : Prop := match k with
  | false => h.IsList a vs
  | true => h.IsTuple a vs
def IterAt (k : Bool) (h : Heap) (it a : Addr) (i : Nat) : Prop := match k with
  | false => h.IsListIter it a i
  | true => h.IsTupleIter it a i
def iterObj (k : Bool) (a : Addr) : Obj := match k with
  | false => { cls := .type "list_iterator", data := .fields #[.ref a, .int 0 0] }
  | true => { cls := .type "tuple_iterator", data := .fields #[.ref a, .int 0 0] }
theorem drawsB {P : Program} {w : World} {A : Around} (k : Bool) (hh : A.handled = none) (it l : Addr) (hne : l ≠ it) (items : Array Value) : Draws P w A it [it, l] items.size (fun i v => items[i]? = some v) (fun i h => IterAt k h it l i ∧ RowAt k h l items) := by
  cases k with
  | false => exact Draws.list hh it l hne items
  | true => exact Draws.tuple hh it l hne items
theorem beginsB (k : Bool) (a : Addr) (items : Array Value) : Begins (.ref a) (iterObj k a) (fun h => RowAt k h a items) := by
  cases k with
  | false => exact begins_list a items
  | true => exact begins_tuple a items
theorem iterB0 {k : Bool} {h : Heap} {it a : Addr} (e : h.get? it = some (iterObj k a)) : IterAt k h it a 0 := by
  cases k with
  | false => exact ⟨_, e, rfl, rfl⟩
  | true => exact ⟨_, e, rfl, rfl⟩
theorem iterB_at {k : Bool} {h h' : Heap} {it a : Addr} {i : Nat} (x : IterAt k h it a i) (e : ∀ o, h.get? it = some o → h'.get? it = some o) : IterAt k h' it a i := by
  cases k with
  | false => exact Heap.IsListIter.at x e
  | true => exact Heap.IsTupleIter.at x e
theorem iterB_obj {k : Bool} {h : Heap} {it a : Addr} {i : Nat} (x : IterAt k h it a i) : ∃ o, h.get? it = some o ∧ ∀ v, o.data ≠ .cell v := by
  cases k with
  | false =>
    obtain ⟨o, e, _, d⟩ := x
    exact ⟨o, e, fun v q => by rw [d] at q; cases q⟩
  | true =>
    obtain ⟨o, e, _, d⟩ := x
    exact ⟨o, e, fun v q => by rw [d] at q; cases q⟩
section
variable {X : Cx} {pins : List (Addr × Obj)} {σ : L2.St} {H : Hp} {s : Shared}
theorem Inv.rowB {k : Bool} {a : Addr} {xs : List V} (I : L2.Inv X pins σ H s) (h : SqB k X.K H a xs) : ∃ its : List Value, Vals xs its ∧ RowAt k s.heap a its.toArray ∧ xs.length ≤ sizeLine ∧ a < s.heap.objs.size := by
  cases k with
  | false =>
    obtain ⟨its, r, p, z⟩ := I.list h
    exact ⟨its, r, p.isList, z, p.lt⟩
  | true =>
    obtain ⟨its, r, p, z⟩ := I.tuple h
    obtain ⟨o, e, _⟩ := id p
    exact ⟨its, r, p, z, Heap.lt_size e⟩
theorem Inv.injB {k : Bool} {a : Addr} {xs ys : List V} (I : L2.Inv X pins σ H s) (h : SqB k X.K H a xs) (h' : SqB k X.K H a ys) : xs = ys := by
  cases k with
  | false => exact I.list_inj h h'
  | true => exact I.tuple_inj h h'
end
/-- the rows at a and b as they stand at each turn, alike long, the items in new pairs -/
def ItzS (k1 k2 : Bool) (K : PySem.W.Frag) (a b : Addr) : L2.It :=
  ⟨fun i H => ∃ (xs ys : List V) (x y : V), SqB k1 K H a xs ∧ SqB k2 K H b ys ∧ xs.length = ys.length ∧ xs[i]? = some x ∧ ys[i]? = some y,
    fun i H v H' => ∃ T x y, v = .ref T ∧ H T = none ∧ H' = upd H T (.tup [x, y]) ∧ (∀ xs, SqB k1 K H a xs → xs[i]? = some x) ∧ ∀ ys, SqB k2 K H b ys → ys[i]? = some y,
    fun i H => ∃ xs ys : List V, SqB k1 K H a xs ∧ SqB k2 K H b ys ∧ xs.length = i ∧ ys.length = i⟩
structure Five (z TI TO i1 i2 a b : Addr) : Prop where
  sep : ZipSep2 z TI TO i1 i2 [i1, a] [i2, b]
  a1 : a ≠ i1
  b2 : b ≠ i2
theorem na {x y : Nat} (h : x < y ∨ y < x) : @Ne Addr x y := fun e => by
  have e2 : @Eq Nat x y := e
  omega
theorem five_at (n a b : Nat) (ha : a < n) (hb : b < n) : Five (n + 4) (n + 2) (n + 3) n (n + 1) a b := by
  have m : ∀ (x y c : Addr), x ≠ y → x ≠ c → x ∉ [y, c] := fun x y c h1 h2 q => by
    rcases List.mem_cons.mp q with q | q
    · exact h1 q
    · exact h2 (List.mem_singleton.mp q)
  refine ⟨⟨na (by omega), na (by omega), na (by omega), na (by omega), by simp, m _ _ _ (na (by omega)) (na (by omega)), m _ _ _ (na (by omega)) (na (by omega)), na (by omega), by simp, m _ _ _ (na (by omega)) (na (by omega)), m _ _ _ (na (by omega)) (na (by omega)), m _ _ _ (na (by omega)) (na (by omega)), m _ _ _ (na (by omega)) (na (by omega))⟩, na (by omega), na (by omega)⟩
theorem turn_zipS {P : Program} {w : World} {K : PySem.W.Frag} {elts : List Expr} {kk : Nat} {tpos : Pos} {k1 k2 : Bool} {a b z TI TO i1 i2 : Addr} (F5 : Five z TI TO i1 i2 a b) :
    Turn P w K (.Tuple elts kk tpos) (ItzS k1 k2 K a b) [z, TI, TO, i1, i2] z (fun i h => LiZ.ZipS h z TI TO .none ∧ IsTupOf2 h TI (.ref i1) (.ref i2) ∧ (∃ x y, IsTupOf2 h TO x y) ∧ IterAt k1 h i1 a i ∧ IterAt k2 h i2 b i) where
  mem := by simp
  obj := fun i h st c hc => by
    obtain ⟨hz, hI, ⟨x, y, hO⟩, h1, h2⟩ := st
    have e' : c = z ∨ c = TI ∨ c = TO ∨ c = i1 ∨ c = i2 := by simpa using hc
    rcases e' with rfl | rfl | rfl | rfl | rfl
    · exact ⟨_, hz, fun v q => nomatch q⟩
    · exact ⟨_, hI, fun v q => nomatch q⟩
    · exact ⟨_, hO, fun v q => nomatch q⟩
    · exact iterB_obj h1
    · exact iterB_obj h2
  keep := fun i h h' st k => by
    obtain ⟨hz, hI, ⟨x, y, hO⟩, h1, h2⟩ := st
    exact ⟨k z (by simp) _ hz, k TI (by simp) _ hI, ⟨x, y, k TO (by simp) _ hO⟩, iterB_at h1 fun o q => k i1 (by simp) o q, iterB_at h2 fun o q => k i2 (by simp) o q⟩
  item := by
    intro X hP hw hK hc i pins s σ H E I hf st hg
    subst hP hw hK
    obtain ⟨hz, hI, ⟨x0, y0, hO⟩, h1, h2⟩ := st
    obtain ⟨xs, ys, x, y, qx, qy, ql, hx, hy⟩ := hg
    obtain ⟨its, rv, p, _, _⟩ := I.rowB qx
    obtain ⟨its2, rv2, p2, _, _⟩ := I.rowB qy
    have l1 := rv.length
    have l2 := rv2.length
    have hi : i < its.toArray.size := by
      have := (List.getElem?_eq_some_iff.mp hx).1
      rw [List.size_toArray]
      omega
    have sz : its2.toArray.size = its.toArray.size := by rw [List.size_toArray, List.size_toArray]; omega
    have hh := I.ok.hd hc
    have D2 := drawsB (P := X.prog) (w := X.w) (A := X.A.in1) k2 hh i2 b F5.b2 its2.toArray
    rw [sz] at D2
    have hzl : z < s.heap.objs.size := Heap.lt_size hz
    refine LiZ.py_item F5.sep (drawsB (P := X.prog) (w := X.w) (A := X.A.in1) k1 hh i1 a F5.a1 its.toArray) D2 hz hI hO ⟨h1, p⟩ ⟨h2, p2⟩ hi fun u u2 h' tk e1 e2 z' O' r1 r2 hT hsz hk => ?_
    have ru : RelV x u := by
      obtain ⟨u', hu, ru⟩ := rv.get hx
      have : its.toArray[i]? = some u' := by simpa using hu
      rw [this] at e1
      cases e1
      exact ru
    have ru2 : RelV y u2 := by
      obtain ⟨u', hu, ru⟩ := rv2.get hy
      have : its2.toArray[i]? = some u' := by simpa using hu
      rw [this] at e2
      cases e2
      exact ru
    refine ⟨_, rfl, LiZ.let_go (s := { s with heap := h', toks := tk }) z' fun h'' z'' sb => ?_⟩
    have hT2 : h''.get? s.heap.objs.size = some { cls := .type "tuple", data := .seq #[u, u2] } := (sb.2 _ (Nat.ne_of_gt hzl)).trans hT
    have new : ObjOk X.prog X.w (upd H s.heap.objs.size (.tup [x, y])) h'' s.heap.objs.size (.tup [x, y]) := ⟨by show 2 ≤ sizeLine; decide, [u, u2], .cons ru (.cons ru2 .nil), ⟨_, hT2, rfl, _, rfl⟩⟩
    have old : ∀ c o, c ∉ [z, TI, TO, i1, i2] → s.heap.get? c = some o → h''.get? c = some o := fun c o hb q =>
      (sb.2 c fun q' => hb (by simp [q'])).trans (hk c o (fun q' => hb (by simp [q'])) (fun q' => hb (by simp [q'])) (fun q' => hb (by simp [q'])) (fun q' => hb (by simp [q'])) q)
    have I1 : L2.Inv X pins σ (upd H s.heap.objs.size (.tup [x, y])) { s with heap := h'', toks := tk } := I.turnedNew (t' := tk) (ch := [z, TI, TO, i1, i2]) old hf (Nat.le_refl _) new
    refine ⟨.ref s.heap.objs.size, _, I1, rfl, ⟨_, x, y, rfl, I.hok.fresh (Nat.le_refl _), rfl, fun l hl => by rw [I.injB hl qx]; exact hx, fun l hl => by rw [I.injB hl qy]; exact hy⟩, ⟨z'', ?_, ⟨u, u2, ?_⟩, ?_, ?_⟩, fun c hcm => ?_⟩
    · exact (sb.2 _ F5.sep.TIz).trans (hk _ _ F5.sep.TIz F5.sep.TITO F5.sep.TIi1 F5.sep.TIi2 hI)
    · exact (sb.2 _ F5.sep.TOz).trans O'
    · exact iterB_at r1.1 fun o q => (sb.2 _ (Ne.symm F5.sep.zi1)).trans q
    · exact iterB_at r2.1 fun o q => (sb.2 _ (Ne.symm F5.sep.zi2)).trans q
    · have hlt : c < s.heap.objs.size := by
        have e' : c = z ∨ c = TI ∨ c = TO ∨ c = i1 ∨ c = i2 := by simpa using hcm
        rcases e' with rfl | rfl | rfl | rfl | rfl
        · exact hzl
        · exact Heap.lt_size hI
        · exact Heap.lt_size hO
        · obtain ⟨_, q, _⟩ := iterB_obj h1
          exact Heap.lt_size q
        · obtain ⟨_, q, _⟩ := iterB_obj h2
          exact Heap.lt_size q
      rw [upd_ne (Nat.ne_of_lt hlt)]
      exact (hf c hcm).1
  done := by
    intro X hP hw hK hc i pins s σ H E I hf st hg
    subst hP hw hK
    obtain ⟨hz, hI, ⟨x0, y0, hO⟩, h1, h2⟩ := st
    obtain ⟨xs, ys, qx, qy, e1, e2⟩ := hg
    obtain ⟨its, rv, p, _, _⟩ := I.rowB qx
    obtain ⟨its2, rv2, p2, _, _⟩ := I.rowB qy
    have l1 := rv.length
    have l2 := rv2.length
    have hh := I.ok.hd hc
    have D1 := drawsB (P := X.prog) (w := X.w) (A := X.A.in1) k1 hh i1 a F5.a1 its.toArray
    have D2 := drawsB (P := X.prog) (w := X.w) (A := X.A.in1) k2 hh i2 b F5.b2 its2.toArray
    rw [show its.toArray.size = i by rw [List.size_toArray]; omega] at D1
    rw [show its2.toArray.size = i by rw [List.size_toArray]; omega] at D2
    exact LiZ.py_end hh F5.sep D1 D2 hz hI hO ⟨h1, p⟩ ⟨h2, p2⟩ fun h' hk => ⟨rfl, I.turnedL (t' := s.toks) (ch := [z, TI, TO, i1, i2]) (fun c o hb q =>
      hk c o (fun q' => hb (by simp [q'])) (fun q' => hb (by simp [q'])) (fun q' => hb (by simp [q'])) (fun q' => hb (by simp [q'])) q) hf⟩
  self := fun A i s Q E st h => LiZ.py_iter st.1 h
def iZipS (K : PySem.W.Frag) (ta : TA) : TI := fun σ H R => ta σ H fun vs H1 => ∃ a b k1 k2 xs ys, vs = [.ref a, .ref b] ∧ SqB k1 K H1 a xs ∧ SqB k2 K H1 b ys ∧ R (ItzS k1 k2 K a b) H1
theorem pi_zipS {X : Cx} {e e2 : Expr} {ta : TA} {p pos tpos kpos cpos : Pos} {ck : Nat} {elts : List Expr} {kk : Nat} (hg : Gl X "zip") (hm : X.mg "zip" = none) (ha : PA X [e, e2] ta)
    (hs : starEach [e, e2] X.env = (false, eval e X.env) :: starEach [e2] X.env) (hpl : (backTo pos (starEach [e, e2] X.env)).any (·.1) = false) :
    PI X (.Tuple elts kk tpos) (.Call (.Name "zip" p) [e, e2] [⟨some (Str.ofString "strict"), .Constant (.bool true) ck cpos, kpos⟩] pos) (iZipS X.K ta) := by
  refine ⟨fun pins s σ H R I h => ?_⟩
  refine wpAny_Call_Name_kw (ld_blt I hg hm PyProof.Rows.boot_zip (LiZ.callTyKw (thn (ha.run pos pins s σ H _ I h) fun us s1 ⟨vs, H1, I1, r1, q1⟩ => ?_) hs hpl rfl rfl))
  obtain ⟨a, b, k1, k2, xs, ys, ex, qx, qy, q⟩ := q1
  subst ex
  refine thn ((pk_cons (nm := some (Str.ofString "strict")) (kpos := kpos) (pe_bl (X := X) (j := ck) (pos := cpos) (b := true)) pk_nil).run pos pins s1 σ H1 (fun zs H2 => zs = [.bl true] ∧ H2 = H1) I1 ⟨rfl, rfl⟩) fun ws s2 ⟨zs, H2, I2, rz, ez, eH⟩ => ?_
  subst ez eH
  cases rz with
  | cons rb rr =>
    cases rr
    cases rb
    cases r1 with
    | cons r rr =>
      cases rr with
      | cons r' rr =>
        cases rr
        cases r
        cases r'
        obtain ⟨its, rv, p1, _, la⟩ := I2.rowB qx
        obtain ⟨its2, rv2, p2, _, lb⟩ := I2.rowB qy
        refine LiZ.begins (beginsB k1 a its.toArray) (beginsB k2 b its2.toArray) p1 p2 fun h' hz hI hO c0 c1 hk => LiZ.py_iter hz ?_
        have I3 : L2.Inv X pins σ H2 { s2 with heap := h' } := I2.kept (t' := s2.toks) hk
        have F5 : Five (s2.heap.objs.size + 4) (s2.heap.objs.size + 2) (s2.heap.objs.size + 3) s2.heap.objs.size (s2.heap.objs.size + 1) a b := by
          exact five_at _ _ _ la lb
        refine ⟨s2.heap.objs.size + 4, [s2.heap.objs.size + 4, s2.heap.objs.size + 2, s2.heap.objs.size + 3, s2.heap.objs.size, s2.heap.objs.size + 1], _, _, H2, rfl, I3, turn_zipS F5, ⟨hz, hI, ⟨_, _, hO⟩, iterB0 c0, iterB0 c1⟩, fun c hcm => ?_, q⟩
        have hle : s2.heap.objs.size ≤ c := by
          have e' : c = s2.heap.objs.size + 4 ∨ c = s2.heap.objs.size + 2 ∨ c = s2.heap.objs.size + 3 ∨ c = s2.heap.objs.size ∨ c = s2.heap.objs.size + 1 := by simpa using hcm
          rcases e' with e | e | e | e | e <;> (have e2 : @Eq Nat c _ := e; omega)
        exact I2.fpOk hle (I2.hok.fresh hle)
end L2
set_option Elab.async false
set_option linter.all false
set_option maxRecDepth 100000
set_option maxHeartbeats 2000000
/-! LiEnum: enumerate(x) of a list or a tuple; what zip and enumerate feed, in Li. -/
namespace LiZ
open PySem
abbrev hE1 (h : Heap) (o : Obj) : Heap := (h.push o).push { cls := .type "enumerate", data := .fields #[.none, .bool false, .ref h.objs.size, rawInt 0, .none, .none] }
theorem meets_enum {v : Value} {o : Obj} {H : Heap → Prop} (B : Begins v o H) : Meets (Builtin.«enumerate.__new__» ⟨[.type "enumerate", v], []⟩) (fun _ R s => H s.heap ∧ R (.ok (.ret (.ref (s.heap.push o).objs.size))) { s with heap := hE1 s.heap o }) :=
  .of_wp fun prog w A R s h => by
    obtain ⟨m, gn, dr, tk, os⟩ := s
    obtain ⟨h1, h⟩ := h
    have hsub := sub_enumerate
    have q1 : ∀ {A' : Around} {E : Value → Shared → Prop} {Q : Value → Shared → Prop}, Q (.ref m.objs.size) ⟨m.push o, gn, dr, tk, os⟩ → wpAny (model prog w) A' (pyIter v) Q E ⟨m, gn, dr, tk, os⟩ :=
      fun q => B.iter prog w _ _ ⟨m, gn, dr, tk, os⟩ _ h1 q
    wp_walk using q1
    refine wpAny_stack_any fun st => wpAny_pure ?_
    split
    · rename_i c _ _ _ _ _
      generalize (c == Value.type "enumerate") = bb
      cases bb <;> (wp_walk using q1; exact ⟨_, rfl, h⟩)
    · wp_walk using q1
      exact ⟨_, rfl, h⟩
theorem enum_new {P : Program} {w : World} {A : Around} {E : Value → Shared → Prop} {s : Shared} {v : Value} {o : Obj} {H : Heap → Prop} {Q : Value → Shared → Prop} (B : Begins v o H) (h1 : H s.heap)
    (h : ∀ h', IsEnum h' (s.heap.objs.size + 1) s.heap.objs.size 0 .none → h'.get? s.heap.objs.size = some o → (∀ b o, s.heap.get? b = some o → h'.get? b = some o) → Q (.ref (s.heap.objs.size + 1)) { s with heap := h' }) :
    wpAny (model P w) A (call (.type "enumerate") [v]) Q E s := by
  refine callType_new F.called_enumerate (by decide) (F.typeCall_enumerate_1 _) (F.newCall_enumerate_1 _) (fun obj => F.args_object_init_2 obj _) F.entry_enumerate_new (meets_enum B) ⟨h1, ?_⟩
  have n1 : (s.heap.push o).objs.size = s.heap.objs.size + 1 := Heap.size_push ..
  have c1 : (hE1 s.heap o).get? (s.heap.push o).objs.size = some _ := Heap.get?_push_size _ rfl
  rw [n1] at c1
  refine (?_ : _ ∧ _)
  rw [n1]
  exact ⟨⟨_, c1, rfl⟩, h _ c1 (Heap.get?_push_of_some _ (Heap.get?_push_size _ B.free)) fun b o' x => Heap.get?_push_of_some _ (Heap.get?_push_of_some _ x)⟩
end LiZ
namespace L2
open PySem PyProof.Rows
/-- the row at a as it stands at each turn, each item in a new pair with its place -/
def IteB (k : Bool) (K : PySem.W.Frag) (a : Addr) : L2.It :=
  ⟨fun i H => ∃ (xs : List V) (x : V), SqB k K H a xs ∧ xs[i]? = some x, fun i H v H' => ∃ T x, v = .ref T ∧ H T = none ∧ H' = upd H T (.tup [.int (i : Nat), x]) ∧ ∀ xs, SqB k K H a xs → xs[i]? = some x, fun i H => ∃ xs : List V, SqB k K H a xs ∧ xs.length = i⟩
theorem turn_enumB {P : Program} {w : World} {K : PySem.W.Frag} {elts : List Expr} {kk : Nat} {tpos : Pos} {k : Bool} {a e it : Addr} (hne : e ≠ it) (hea : e ≠ a) (hai : a ≠ it) :
    Turn P w K (.Tuple elts kk tpos) (IteB k K a) [e, it] e (fun i h => (∃ old, IsEnum h e it ((i : Nat) : Int) old) ∧ IterAt k h it a i) where
  mem := by simp
  obj := fun i h st b hb => by
    obtain ⟨⟨old, he⟩, hi⟩ := st
    have e' : b = e ∨ b = it := by simpa using hb
    rcases e' with rfl | rfl
    · exact ⟨_, he, fun v q => nomatch q⟩
    · exact iterB_obj hi
  keep := fun i h h' st k => let ⟨⟨old, he⟩, hi⟩ := st; ⟨⟨old, k e (by simp) _ he⟩, iterB_at hi fun o q => k it (by simp) o q⟩
  item := by
    intro X hP hw hK hc i pins s σ H E I hf st hg
    subst hP hw hK
    obtain ⟨⟨old, he⟩, hit⟩ := st
    obtain ⟨xs, x, hq, hx⟩ := hg
    obtain ⟨its, rv, p, _, la⟩ := I.rowB hq
    obtain ⟨u0, hu0, ru0⟩ := rv.get hx
    have l1 := rv.length
    have hi : i < its.toArray.size := by
      have := (List.getElem?_eq_some_iff.mp hx).1
      rw [List.size_toArray]
      omega
    have hel : e < s.heap.objs.size := Heap.lt_size he
    have hil : it < s.heap.objs.size := by obtain ⟨_, q, _⟩ := iterB_obj hit; exact Heap.lt_size q
    have hef : e ∉ [it, a] := fun q => by
      rcases List.mem_cons.mp q with q | q
      · exact hne q
      · exact hea (List.mem_singleton.mp q)
    refine wpAny_pyNext_enum_itemD (drawsB (P := X.prog) (w := X.w) (A := X.A.in1) k (I.ok.hd hc) it a hai its.toArray) he ⟨hit, p⟩ hi hne hef fun u h' tk eu ho st' hT hsz hk => ?_
    have ru : RelV x u := by
      have : its.toArray[i]? = some u0 := by simpa using hu0
      rw [this] at eu
      cases eu
      exact ru0
    refine ⟨_, rfl, wpAny_letOwnedTupleGo_enum (s := { s with heap := h', toks := tk + 1 }) ho fun h'' he' sb => ?_⟩
    have hT2 : h''.get? s.heap.objs.size = some { cls := .type "tuple", data := .seq #[.int i tk, u] } := (sb.2 _ (Nat.ne_of_gt hel)).trans hT
    have new : ObjOk X.prog X.w (upd H s.heap.objs.size (.tup [.int (i : Nat), x])) h'' s.heap.objs.size (.tup [.int (i : Nat), x]) := ⟨by show 2 ≤ sizeLine; decide, [.int i tk, u], .cons ⟨_, rfl⟩ (.cons ru .nil), ⟨_, hT2, rfl, _, rfl⟩⟩
    have I1 : L2.Inv X pins σ (upd H s.heap.objs.size (.tup [.int (i : Nat), x])) { s with heap := h'', toks := tk + 1 } :=
      I.turnedNew (t' := tk + 1) (ch := [e, it]) (fun b ob hb q => (sb.2 b (fun z => hb (by simp [z]))).trans (hk b ob (fun z => hb (by simp [z])) (fun z => hb (by simp [z])) q)) hf (Nat.le_refl _) new
    refine ⟨.ref s.heap.objs.size, _, I1, rfl, ⟨_, x, rfl, I.hok.fresh (Nat.le_refl _), rfl, fun ys hy => by rw [I.injB hy hq]; exact hx⟩, ⟨⟨u, ?_⟩, iterB_at st'.1 fun o q => (sb.2 it (Ne.symm hne)).trans q⟩, fun b hb => ?_⟩
    · have e1 : ((i + 1 : Nat) : Int) = (i : Int) + 1 := by omega
      rw [e1]
      exact he'
    · have hb' : b < s.heap.objs.size := by
        have e' : b = e ∨ b = it := by simpa using hb
        rcases e' with rfl | rfl
        · exact hel
        · exact hil
      rw [upd_ne (Nat.ne_of_lt hb')]
      exact (hf b hb).1
  done := by
    intro X hP hw hK hc i pins s σ H E I hf st hg
    subst hP hw hK
    obtain ⟨⟨old, he⟩, hit⟩ := st
    obtain ⟨xs, hq, hx⟩ := hg
    obtain ⟨its, rv, p, _, la⟩ := I.rowB hq
    obtain ⟨f0, f1, f2, f3, f4, f5⟩ := hf it (by simp)
    have l1 := rv.length
    have D := drawsB (P := X.prog) (w := X.w) (A := X.A.in1) k (I.ok.hd hc) it a hai its.toArray
    rw [show its.toArray.size = i by rw [List.size_toArray]; omega] at D
    exact wpAny_pyNext_enum_endD D he ⟨hit, p⟩ fun h' eb => ⟨rfl, I.turned (t' := s.toks) (fun b o hb q => eb b o hb q) f0 f1 f3 f4 f5⟩
  self := fun A i s Q E st h => let ⟨⟨_, he⟩, _⟩ := st; wpAny_pyIter_enum he h
def iEnumB (K : PySem.W.Frag) (ta : TA) : TI := fun σ H R => ta σ H fun vs H1 => ∃ a k xs, vs = [.ref a] ∧ SqB k K H1 a xs ∧ R (IteB k K a) H1
theorem pi_enumB {X : Cx} {e : Expr} {ta : TA} {p pos tpos : Pos} {elts : List Expr} {kk : Nat} (hg : Gl X "enumerate") (hm : X.mg "enumerate" = none) (ha : PA X [e] ta) (hs : starEach [e] X.env = [(false, eval e X.env)]) :
    PI X (.Tuple elts kk tpos) (.Call (.Name "enumerate" p) [e] [] pos) (iEnumB X.K ta) := by
  refine ⟨fun pins s σ H R I h => ?_⟩
  refine Call_ (ld_blt I hg hm PyProof.Rows.boot_enumerate (PyProof.Rows.callWith_type1 (thn (ha.run pos pins s σ H _ I h) fun us s1 ⟨vs, H1, I1, r1, q1⟩ => ?_) hs rfl))
  obtain ⟨a, k, xs, ex, hq, q⟩ := q1
  subst ex
  cases r1 with
  | cons r rr =>
    cases rr
    cases r
    obtain ⟨its, rv, p', _, la⟩ := I1.rowB hq
    refine LiZ.enum_new (beginsB k a its.toArray) p' fun h' he c0 hk => wpAny_pyIter_enum he ?_
    have I2 : L2.Inv X pins σ H1 { s1 with heap := h' } := I1.kept (t' := s1.toks) hk
    refine ⟨s1.heap.objs.size + 1, [s1.heap.objs.size + 1, s1.heap.objs.size], _, _, H1, rfl, I2, turn_enumB (na (by omega)) (na (.inr (Nat.lt_succ_of_lt la))) (na (.inl la)), ⟨⟨.none, he⟩, iterB0 c0⟩, fun b hb => ?_, q⟩
    have hle : s1.heap.objs.size ≤ b := by
      have e' : b = s1.heap.objs.size + 1 ∨ b = s1.heap.objs.size := by simpa using hb
      rcases e' with e | e <;> (have e2 : @Eq Nat b _ := e; omega)
    exact I1.fpOk hle (I1.hok.fresh hle)
end L2
namespace Li
open PySem L2
section
variable {X : Cx} {G : SX} {lvl : Nat} {nm : Nat → Str} {σ : Env} {S : Sto} {hid : Hid} {σ' : L2.St} {H : Hp} {K : PySem.W.Frag}
/-- a row, as long as it stands -/
structure RowF (K : PySem.W.Frag) (hid : Hid) (S1 : Sto) (H1 : Hp) (v : Val) (vs : List Val) (k : Bool) (a : Addr) : Prop where
  at' : ∀ {S2 H2 hid2}, (∀ p, hid2 p → hid p ∨ H1 p = none) → Ext S1 H1 S2 H2 → Rel K hid2 S2 H2 → chkV S1 v S2 → ∃ xs, SqB k K H2 a xs ∧ Rvs K (Mset S2 hid2) H2 vs xs
theorem row_rd {v : Val} {vs : List Val} {x : V} {S1 : Sto} {H1 : Hp} (e : seqV S1 v = some vs) (rx : Rv K (Mset S1 hid) H1 v x) : ∃ k a, x = .ref a ∧ RowF K hid S1 H1 v vs k a := by
  rcases seqV_inv e with ex | ⟨ns, ex, en⟩ | ex | ⟨a, ex, hS⟩
  · subst ex
    obtain ⟨p, xs, exx, h1, s1⟩ := rx
    refine ⟨true, p, exx, ⟨fun {S2 H2 hid2} hh e rel _ => ⟨xs, ?_, s1.keep (keeps_later hh e)⟩⟩⟩
    rcases h1 with h1 | h1
    · exact SqT.of ((keeps_later hh e).keep p _ h1.1 so_tup h1.2).1
    · exact SqT.const h1 _
  · subst ex en
    obtain ⟨p, exx, h1⟩ := rx
    refine ⟨false, p, exx, ⟨fun {S2 H2 hid2} hh e rel _ => ⟨_, ?_, Rvs.ints ns⟩⟩⟩
    rcases h1 with ⟨q1 | ⟨o, q1⟩, q2⟩ | h1
    · exact .inl (.inl ((keeps_later hh e).keep p _ q1 so_lst q2).1)
    · exact .inl (.inr ⟨o, ((keeps_later hh e).keep p _ q1 so_frz q2).1⟩)
    · exact SqL.const h1 _
  · subst ex
    obtain ⟨p, xs, exx, h1, h2, s1⟩ := rx
    exact ⟨false, p, exx, ⟨fun {S2 H2 hid2} hh e rel _ => ⟨xs, SqL.of ((keeps_later hh e).keep p _ h1 so_lst h2).1, s1.keep (keeps_later hh e)⟩⟩⟩
  · subst ex
    refine ⟨false, a, rx, ⟨fun {S2 H2 hid2} hh e rel ck => ?_⟩⟩
    obtain ⟨xs, h1, r⟩ := rel.cells a _ ((show S2 a = S1 a from ck).trans hS)
    exact ⟨xs, SqL.of h1, r⟩
theorem RowF.now {v : Val} {vs : List Val} {k : Bool} {a : Addr} {S1 : Sto} {H1 : Hp} (r : RowF K hid S1 H1 v vs k a) (rel : Rel K hid S1 H1) : ∃ xs, SqB k K H1 a xs ∧ Rvs K (Mset S1 hid) H1 vs xs :=
  r.at' (fun p h => .inl h) (Ext.refl S1 H1) rel (by cases v <;> first | trivial | rfl)
/-- a row stands through a later step -/
theorem RowF.later {v : Val} {vs : List Val} {k : Bool} {a : Addr} {S1 S2 : Sto} {H1 H2 : Hp} (r : RowF K hid S1 H1 v vs k a) (e : Ext S1 H1 S2 H2) (hs : chkV S1 v S2) : RowF K hid S2 H2 v vs k a :=
  ⟨fun {S3 H3 hid3} hh e' rel ck => r.at' (fun p h => (hh p h).imp id fun z => e.free z) (e.trans e') rel (by
    cases v <;> first
      | trivial
      | exact (show S3 _ = S2 _ from ck).trans hs)⟩
theorem zipV_get : ∀ {xs ys : List Val} {i : Nat} {v : Val}, (zipV xs ys)[i]? = some v → ∃ x y, xs[i]? = some x ∧ ys[i]? = some y ∧ v = .tup [x, y]
  | [], ys, i, v, h => by simp [zipV] at h
  | x :: xs, [], i, v, h => by simp [zipV] at h
  | x :: xs, y :: ys, 0, v, h => ⟨x, y, rfl, rfl, by simpa [zipV] using h.symm⟩
  | x :: xs, y :: ys, i + 1, v, h => zipV_get (xs := xs) (ys := ys) (i := i) (by simpa [zipV] using h)
theorem zipV_len : ∀ {xs ys : List Val}, xs.length = ys.length → (zipV xs ys).length = xs.length
  | [], [], _ => rfl
  | x :: xs, y :: ys, h => by
    rw [zipV, List.length_cons, List.length_cons, zipV_len (by simpa using h)]
theorem enumV_get : ∀ {xs : List Val} {n i : Nat} {v : Val}, (enumV n xs)[i]? = some v → ∃ x, xs[i]? = some x ∧ v = .tup [.int ((n + i : Nat) : Int), x]
  | [], n, i, v, h => by simp [enumV] at h
  | x :: xs, n, 0, v, h => ⟨x, rfl, by simpa [enumV] using h.symm⟩
  | x :: xs, n, i + 1, v, h => by
    obtain ⟨y, h1, h2⟩ := enumV_get (xs := xs) (n := n + 1) (i := i) (v := v) (by simpa [enumV] using h)
    exact ⟨y, by simpa using h1, by rw [h2, show n + 1 + i = n + (i + 1) by omega]⟩
theorem enumV_len : ∀ {xs : List Val} {n : Nat}, (enumV n xs).length = xs.length
  | [], n => rfl
  | x :: xs, n => by rw [enumV, List.length_cons, List.length_cons, enumV_len]
/-- a new pair -/
theorem pair_new {S2 : Sto} {H2 : Hp} {hid2 : Hid} {T : Addr} {vs : List Val} {xs : List V} (rel : Rel K hid2 S2 H2) (hT : H2 T = none) (r : Rvs K (Mset S2 hid2) H2 vs xs) :
    Ext S2 H2 S2 (upd H2 T (.tup xs)) ∧ Rel K hid2 S2 (upd H2 T (.tup xs)) ∧ Rv K (Mset S2 hid2) (upd H2 T (.tup xs)) (.tup vs) (.ref T) ∧ ∀ p, upd H2 T (.tup xs) p = none → H2 p = none := by
  refine ⟨Ext.new S2 hT, rel.new hT, Rv.newT rel hT r, fun p hp => ?_⟩
  by_cases e : p = T
  · rw [e]
    exact hT
  · rw [upd_ne e] at hp
    exact hp
theorem feeds_zip {u v : Val} {us vs : List Val} {k1 k2 : Bool} {a b : Addr} {S1 : Sto} {H1 : Hp} (r1 : RowF K hid S1 H1 u us k1 a) (r2 : RowF K hid S1 H1 v vs k2 b) (hl : us.length = vs.length) : Feeds K hid S1 H1 (ItzS k1 k2 K a b) (zipV us vs) (fun S => chkV S1 u S ∧ chkV S1 v S) := by
  refine ⟨fun {S2 H2 hid2} hh e rel ck {i w} hw => ?_, fun {S2 H2 hid2} hh e rel ck => ?_⟩
  · obtain ⟨xs, q1, s1⟩ := r1.at' hh e rel ck.1
    obtain ⟨ys, q2, s2⟩ := r2.at' hh e rel ck.2
    obtain ⟨x0, y0, g1, g2, ew⟩ := zipV_get hw
    subst ew
    obtain ⟨x, hx, rx⟩ := s1.get g1
    obtain ⟨y, hy, ry⟩ := s2.get g2
    refine ⟨⟨xs, ys, x, y, q1, q2, by rw [← s1.length, ← s2.length, hl], hx, hy⟩, fun z H3 ⟨T, x', y', ez, hT, eH, e1, e2⟩ => ?_⟩
    subst ez eH
    have h1 := e1 xs q1
    have h2 := e2 ys q2
    rw [hx] at h1
    rw [hy] at h2
    cases h1
    cases h2
    exact pair_new rel hT ⟨x, [y], rfl, rx, y, [], rfl, ry, rfl⟩
  · obtain ⟨xs, q1, s1⟩ := r1.at' hh e rel ck.1
    obtain ⟨ys, q2, s2⟩ := r2.at' hh e rel ck.2
    exact ⟨xs, ys, q1, q2, by rw [zipV_len hl, s1.length], by rw [zipV_len hl, hl, s2.length]⟩
theorem feeds_enum {u : Val} {us : List Val} {k : Bool} {a : Addr} {S1 : Sto} {H1 : Hp} (r1 : RowF K hid S1 H1 u us k a) : Feeds K hid S1 H1 (IteB k K a) (enumV 0 us) (chkV S1 u) := by
  refine ⟨fun {S2 H2 hid2} hh e rel ck {i w} hw => ?_, fun {S2 H2 hid2} hh e rel ck => ?_⟩
  · obtain ⟨xs, q1, s1⟩ := r1.at' hh e rel ck
    obtain ⟨x0, g1, ew⟩ := enumV_get hw
    subst ew
    obtain ⟨x, hx, rx⟩ := s1.get g1
    refine ⟨⟨xs, x, q1, hx⟩, fun z H3 ⟨T, x', ez, hT, eH, e1⟩ => ?_⟩
    subst ez eH
    have h1 := e1 xs q1
    rw [hx] at h1
    cases h1
    rw [Nat.zero_add]
    exact pair_new rel hT ⟨.int i, [x], rfl, rfl, x, [], rfl, rx, rfl⟩
  · obtain ⟨xs, q1, s1⟩ := r1.at' hh e rel ck
    exact ⟨xs, q1, by rw [enumV_len, s1.length]⟩
theorem sI_enum {e : Expr} {m : E} {p pos tpos : Pos} {elts : List Expr} {kk : Nat} (hg : Gl X "enumerate") (hm : X.mg "enumerate" = none) (he : PE X e (tEv G X.K m)) (hs : starEach [e] X.env = [(false, eval e X.env)]) :
    PI X (.Tuple elts kk tpos) (.Call (.Name "enumerate" p) [e] [] pos) (iEv G X.K (.enum m)) :=
  PI.wk (pi_enumB hg hm (pa_cons he pa_nil (by rw [hs]; rfl)) hs) fun σ' H R ⟨σ, S, hid, w, h⟩ => (t1 (a := m) w h).mono fun x' H1 ⟨S1, x, e1, w1, rx, z⟩ => by
    obtain ⟨vs, ev, z⟩ := optQ_inv z
    obtain ⟨k, a, ea, rf⟩ := row_rd ev rx
    obtain ⟨xs, q1, s1⟩ := rf.now w1.rel
    exact ⟨a, k, xs, by rw [ea], q1, z _ _ e1 w1.rel (feeds_enum rf)⟩
theorem sI_zip {e e2 : Expr} {m m2 : E} {p pos tpos kpos cpos : Pos} {ck : Nat} {elts : List Expr} {kk : Nat} (hg : Gl X "zip") (hm : X.mg "zip" = none) (he : PE X e (tEv G X.K m)) (he2 : PE X e2 (tEv G X.K m2))
    (hs : starEach [e, e2] X.env = (false, eval e X.env) :: starEach [e2] X.env) (hs2 : starEach [e2] X.env = [(false, eval e2 X.env)]) (hpl : (backTo pos (starEach [e, e2] X.env)).any (·.1) = false) :
    PI X (.Tuple elts kk tpos) (.Call (.Name "zip" p) [e, e2] [⟨some (Str.ofString "strict"), .Constant (.bool true) ck cpos, kpos⟩] pos) (iEv G X.K (.zip m m2)) :=
  PI.wk (pi_zipS hg hm (pa_cons he (pa_cons he2 pa_nil (by rw [hs2]; rfl)) hs) hs hpl) fun σ' H R ⟨σ, S, hid, w, h⟩ => (t2 (a := m) (b := m2) w h).mono fun x' H1 q => q.mono fun y' H2 ⟨S2, x, y, e, w2, r1, r2, z⟩ => by
    obtain ⟨us, eu, z⟩ := optQ_inv z
    obtain ⟨vs, ev, z⟩ := optQ_inv z
    obtain ⟨k, a, ea, rf⟩ := row_rd eu r1
    obtain ⟨k2, b, eb, rf2⟩ := row_rd ev r2
    obtain ⟨xs, q1, s1⟩ := rf.now w2.rel
    obtain ⟨ys, q2, s2⟩ := rf2.now w2.rel
    exact ⟨a, b, k, k2, xs, ys, by rw [ea, eb], q1, q2, z.2 _ _ e w2.rel (feeds_zip rf rf2 z.1)⟩
end
end Li
set_option Elab.async false
set_option linter.all false
set_option maxRecDepth 100000
set_option maxHeartbeats 2000000
/-! LiDict: dict(zip(a, b, strict=True)) at the model's level. -/
namespace LiZ
open PySem L2
/-- such a zip whose last pair is still out -/
abbrev ZipO (h : Heap) (z TI TO T : Addr) (f : Bool) : Prop := h.get? z = some { cls := .type "zip", data := .fields #[rawInt T, .bool f, .bool true, .ref TI, .ref TO] }
section
variable {P : Program} {w : World} {A : Around} {E : Value → Shared → Prop} {s : Shared} {z TI TO T i1 i2 : Addr} {fp1 fp2 : List Addr} {n i : Nat} {P1 P2 : Nat → Value → Prop} {St1 St2 : Nat → Heap → Prop} {f : Bool} {oT : Obj}
theorem not_free {Q : Bool → Shared → Prop} (hz : ZipO s.heap z TI TO T f) (hT : s.heap.get? T = some oT) (q : ∀ h', ZipO h' z TI TO T true → Heap.SameBut z s.heap h' → Q false { s with heap := h' }) :
    wpAny (model P w) A (Builtin.SmallTypes.ownedTupleIsFree (.ref z)) Q E s := by
  unfold Builtin.SmallTypes.ownedTupleIsFree
  refine wpAny_bind (wpAny_field hz rfl (x := rawInt T) rfl ?_)
  refine (?_ : wpAny _ A (loadIfAlive ((T : Int).toNat) >>= _) Q E s)
  rw [Int.toNat_natCast]
  refine wpAny_bind (PySem.W.kdx_alive hT ?_)
  simp only [Option.isNone_some, Bool.false_eq_true, if_false]
  refine wpAny_bind (wpAny_field hz rfl (x := .bool f) rfl ?_)
  cases f with
  | true =>
    rw [if_neg (by exact Bool.false_ne_true)]
    exact wpAny_pure (q s.heap hz (Heap.SameBut.refl _ _))
  | false =>
    rw [if_pos (by rfl)]
    exact wpAny_bind (wpAny_setField_rec hz (by simp) fun m1 z1 k1 => wpAny_pure (q m1 z1 k1))
theorem held_item {Q : Value → Shared → Prop} (S : ZipSep2 z TI TO i1 i2 fp1 fp2) (D1 : Draws P w A i1 fp1 n P1 St1) (D2 : Draws P w A i2 fp2 n P2 St2)
    (hz : ZipO s.heap z TI TO T f) (hT : s.heap.get? T = some oT) (hI : IsTupOf2 s.heap TI (.ref i1) (.ref i2)) (t1 : St1 i s.heap) (t2 : St2 i s.heap) (hi : i < n)
    (q : ∀ x1 x2 h' tk, P1 i x1 → P2 i x2 → ZipO h' z TI TO T true → St1 (i + 1) h' → St2 (i + 1) h' → IsTupOf2 h' s.heap.objs.size x1 x2 → (∀ c o, c ≠ z → c ≠ i1 → c ≠ i2 → s.heap.get? c = some o → h'.get? c = some o) → Q (.ref s.heap.objs.size) { s with heap := h', toks := tk }) :
    wpAny (model P w) A (Builtin.«zip.__next__» ⟨[.ref z], []⟩) (fun fin s' => ∃ v, fin = .done (.ret v) ∧ Q v s') E s := by
  obtain ⟨m, gn, dr, t0, os⟩ := s
  show wpAny _ A (field (.ref z) 2 >>= _) _ E _
  refine wpAny_bind (wpAny_field hz rfl (x := .bool true) rfl ?_)
  show wpAny _ A (field (.ref z) 3 >>= _) _ E _
  refine wpAny_bind (wpAny_field hz rfl (x := .ref TI) rfl (wpAny_bind (wpAny_seqItems hI rfl ?_)))
  show wpAny _ A (Builtin.SmallTypes.ownedTupleIsFree (.ref z) >>= _) _ E _
  refine wpAny_bind (not_free hz hT fun m0 z0 k0 => ?_)
  replace k0 : Heap.SameBut z m m0 := k0
  simp only [Bool.false_eq_true, if_false]
  refine wpAny_bind ?_
  rw [← Array.forIn_toList]
  simp only [List.forIn_cons, List.forIn_nil]
  refine wpAny_bind (wpAny_bind (wpAny_holding ?_))
  show wpAny _ A (Builtin.SmallTypes.nextOrEnd (.ref i1)) _ _ ⟨m0, gn, dr, t0, os⟩
  refine endOr_item D1 hi (D1.over t1 k0 S.zf1) fun x1 u1 tk1 p1 r1 c1 => ?_
  replace c1 : Heap.SameBut i1 m0 u1 := c1
  refine wpAny_pure (wpAny_bind (wpAny_bind (wpAny_holding ?_)))
  show wpAny _ A (Builtin.SmallTypes.nextOrEnd (.ref i2)) _ _ ⟨u1, gn, dr, tk1, os⟩
  refine endOr_item D2 hi (D2.over (D2.over t2 k0 S.zf2) c1 S.sep1_2) fun x2 u2 tk2 p2 r2 c2 => ?_
  replace c2 : Heap.SameBut i2 u1 u2 := c2
  refine wpAny_pure (wpAny_pure ?_)
  show wpAny _ A (newTuple [x1, x2] >>= _) _ E ⟨u2, gn, dr, tk2, os⟩
  refine wpAny_bind (wpAny_newTuple ?_)
  have sz : u2.objs.size = m.objs.size := by rw [c2.1, c1.1, k0.1]
  have zz : ZipO u2 z TI TO T true := c2.extBut _ _ S.zi2 (c1.extBut _ _ S.zi1 z0)
  have old : ∀ c o, c ≠ z → c ≠ i1 → c ≠ i2 → m.get? c = some o → u2.get? c = some o := fun c o h1 h3 h4 e => c2.extBut _ _ h4 (c1.extBut _ _ h3 (k0.extBut _ _ h1 e))
  refine wpAny_pure ⟨_, rfl, ?_⟩
  have tp : IsTupOf2 (u2.push { cls := .type "tuple", data := .seq #[x1, x2] }) u2.objs.size x1 x2 := Heap.get?_push_size _ rfl
  show Q (.ref u2.objs.size) _
  rw [sz] at tp ⊢
  exact q x1 x2 _ tk2 p1 p2 (Heap.get?_push_of_some _ zz) (D1.frame _ _ _ (D1.over r1 c2 S.sep2_1) fun b _ o e => Heap.get?_push_of_some _ e) (D2.frame _ _ _ r2 fun b _ o e => Heap.get?_push_of_some _ e) tp fun c o h1 h3 h4 e => Heap.get?_push_of_some _ (old c o h1 h3 h4 e)
theorem held_end {Q : PySem.Fin → Shared → Prop} (hh : A.handled = none) (S : ZipSep2 z TI TO i1 i2 fp1 fp2) (D1 : Draws P w A i1 fp1 n P1 St1) (D2 : Draws P w A i2 fp2 n P2 St2)
    (hz : ZipO s.heap z TI TO T f) (hT : s.heap.get? T = some oT) (hI : IsTupOf2 s.heap TI (.ref i1) (.ref i2)) (t1 : St1 n s.heap) (t2 : St2 n s.heap)
    (q : ∀ h' e, (∀ c o, c ≠ z → c ≠ i1 → c ≠ i2 → s.heap.get? c = some o → h'.get? c = some o) → (∃ o, h'.get? e = some o ∧ o.cls = .type "StopIteration") → E (.ref e) { s with heap := h' }) :
    wpAny (model P w) A (Builtin.«zip.__next__» ⟨[.ref z], []⟩) Q E s := by
  obtain ⟨m, gn, dr, t0, os⟩ := s
  show wpAny _ A (field (.ref z) 2 >>= _) _ E _
  refine wpAny_bind (wpAny_field hz rfl (x := .bool true) rfl ?_)
  show wpAny _ A (field (.ref z) 3 >>= _) _ E _
  refine wpAny_bind (wpAny_field hz rfl (x := .ref TI) rfl (wpAny_bind (wpAny_seqItems hI rfl ?_)))
  show wpAny _ A (Builtin.SmallTypes.ownedTupleIsFree (.ref z) >>= _) _ E _
  refine wpAny_bind (not_free hz hT fun m0 z0 k0 => ?_)
  replace k0 : Heap.SameBut z m m0 := k0
  simp only [Bool.false_eq_true, if_false]
  refine wpAny_bind ?_
  rw [← Array.forIn_toList]
  simp only [List.forIn_cons, List.forIn_nil]
  refine wpAny_bind (wpAny_bind (wpAny_holding ?_))
  show wpAny _ A (Builtin.SmallTypes.nextOrEnd (.ref i1)) _ _ ⟨m0, gn, dr, t0, os⟩
  refine endOr_done D1 (D1.over t1 k0 S.zf1) fun u1 c1 => ?_
  replace c1 : Heap.ExtBut i1 m0 u1 := c1
  have x2 : St2 n u1 := D2.frame _ _ _ (D2.over t2 k0 S.zf2) fun b hb o e => c1 b o (fun y => S.sep1_2 (y ▸ hb)) e
  refine wpAny_bind ?_
  refine (?_ : wpAny _ A (_ >>= _) _ _ _)
  refine wpAny_bind ?_
  show wpAny _ A (forIn [((Value.ref i2), 1)] PUnit.unit _) _ _ _
  simp only [List.forIn_cons, List.forIn_nil]
  refine wpAny_bind (wpAny_bind (endOr_done (s := ⟨u1, gn, dr, t0, os⟩) D2 x2 fun u2 c2 => ?_))
  replace c2 : Heap.ExtBut i2 u1 u2 := c2
  refine wpAny_pure (wpAny_pure (wpAny_bind (wpAny_rule ?_)))
  refine stop_now (s := ⟨u2, gn, dr, t0, os⟩) hh fun m3 e k3 he => ?_
  exact q m3 e (fun c o h1 h3 h4 y => k3 _ _ (c2 _ _ h4 (c1 _ _ h3 (k0.extBut _ _ h1 y)))) he
theorem py_held {Q : Option Value → Shared → Prop} (S : ZipSep2 z TI TO i1 i2 fp1 fp2) (D1 : Draws P w A.in1 i1 fp1 n P1 St1) (D2 : Draws P w A.in1 i2 fp2 n P2 St2)
    (hz : ZipO s.heap z TI TO T f) (hT : s.heap.get? T = some oT) (hI : IsTupOf2 s.heap TI (.ref i1) (.ref i2)) (t1 : St1 i s.heap) (t2 : St2 i s.heap) (hi : i < n)
    (q : ∀ x1 x2 h' tk, P1 i x1 → P2 i x2 → ZipO h' z TI TO T true → St1 (i + 1) h' → St2 (i + 1) h' → IsTupOf2 h' s.heap.objs.size x1 x2 → (∀ c o, c ≠ z → c ≠ i1 → c ≠ i2 → s.heap.get? c = some o → h'.get? c = some o) → Q (some (.ref s.heap.objs.size)) { s with heap := h', toks := tk }) :
    wpAny (model P w) A (pyNext (.ref z)) Q E s := by
  have ty : s.TypeIs (.ref z) "zip" := ⟨_, hz, rfl⟩
  unfold pyNext
  exact wpAny_bind (wpAny_attempt (wpAny_callSpecial?_slot (name := Str.ofString "__next__") ty F.slot_zip_next (wpAny_call_entry F.slot_zip_next ty F.entry_zip_next
    (held_item S D1 D2 hz hT hI t1 t2 hi fun x1 x2 h' tk b1 b2 b3 b4 b5 b6 b7 => wpAny_pure (q x1 x2 h' tk b1 b2 b3 b4 b5 b6 b7)) (F.args_zip_next_1 _))))
theorem py_heldEnd {Q : Option Value → Shared → Prop} (hh : A.handled = none) (S : ZipSep2 z TI TO i1 i2 fp1 fp2) (D1 : Draws P w A.in1 i1 fp1 n P1 St1) (D2 : Draws P w A.in1 i2 fp2 n P2 St2)
    (hz : ZipO s.heap z TI TO T f) (hT : s.heap.get? T = some oT) (hI : IsTupOf2 s.heap TI (.ref i1) (.ref i2)) (t1 : St1 n s.heap) (t2 : St2 n s.heap)
    (q : ∀ h', (∀ c o, c ≠ z → c ≠ i1 → c ≠ i2 → s.heap.get? c = some o → h'.get? c = some o) → Q none { s with heap := h' }) : wpAny (model P w) A (pyNext (.ref z)) Q E s := by
  have ty : s.TypeIs (.ref z) "zip" := ⟨_, hz, rfl⟩
  unfold pyNext
  refine wpAny_bind (wpAny_attempt (wpAny_callSpecial?_slot (name := Str.ofString "__next__") ty F.slot_zip_next (wpAny_call_entry F.slot_zip_next ty F.entry_zip_next (held_end (A := A.in1) hh S D1 D2 hz hT hI t1 t2 fun h' e k he => ?_) (F.args_zip_next_1 _))))
  obtain ⟨o, ho, hc⟩ := he
  exact wpAny_bind (wpAny_isInstance (T := "StopIteration") (b := true) ⟨o, ho, hc⟩ isSubtype_stop (wpAny_pure (q _ k)))
end
theorem rowB_at {k : Bool} {h h' : Heap} {a : Addr} {vs : Array Value} (x : RowAt k h a vs) (e : ∀ o, h.get? a = some o → h'.get? a = some o) : RowAt k h' a vs := by
  cases k with
  | false => exact Heap.IsList.at x e
  | true => exact Heap.IsTuple.at x e
theorem rowB_obj {k : Bool} {h : Heap} {a : Addr} {vs : Array Value} (x : RowAt k h a vs) : ∃ o, h.get? a = some o := by
  cases k with
  | false =>
    obtain ⟨o, e, _⟩ := x
    exact ⟨o, e⟩
  | true =>
    obtain ⟨o, e, _⟩ := x
    exact ⟨o, e⟩
section
variable {P : Program} {w : World}
/-- the pairs of a strict zip, as an argument of dict() -/
theorem pairs_zip (k1 k2 : Bool) {z TI TO i1 i2 l1 l2 : Addr} (F5 : Five z TI TO i1 i2 l1 l2) (lT : l1 ≠ z ∧ l1 ≠ TO ∧ l1 ≠ i2 ∧ l2 ≠ z ∧ l2 ≠ TO ∧ l2 ≠ i1) (xs ys : Array Value) (hs : xs.size = ys.size) :
    PairArg P w "zip" z [z, TI, TO, i1, i2, l1, l2] [z, TO, i1, i2] xs.size (fun i k v => xs[i]? = some k ∧ ys[i]? = some v)
      (fun h => ZipS h z TI TO .none ∧ IsTupOf2 h TI (.ref i1) (.ref i2) ∧ (∃ a b, IsTupOf2 h TO a b) ∧ IterAt k1 h i1 l1 0 ∧ IterAt k2 h i2 l2 0 ∧ RowAt k1 h l1 xs ∧ RowAt k2 h l2 ys) where
  type := fun s ok => ⟨_, ok.1, rfl⟩
  notDict := by decide
  keep := fun h h' ok hk => by
    obtain ⟨hz, hI, ⟨a, b, hO⟩, h1, h2, q1, q2⟩ := ok
    exact ⟨hk _ _ hz, hk _ _ hI, ⟨a, b, hk _ _ hO⟩, iterB_at h1 fun o e => hk _ o e, iterB_at h2 fun o e => hk _ o e, rowB_at q1 fun o e => hk _ o e, rowB_at q2 fun o e => hk _ o e⟩
  there := fun h ok b hb => by
    obtain ⟨hz, hI, ⟨a, c, hO⟩, h1, h2, q1, q2⟩ := ok
    simp only [List.mem_cons, List.not_mem_nil, or_false] at hb
    rcases hb with e | e | e | e | e | e | e <;> subst e
    · exact ⟨_, hz⟩
    · exact ⟨_, hI⟩
    · exact ⟨_, hO⟩
    · exact (iterB_obj h1).imp fun o q => q.1
    · exact (iterB_obj h2).imp fun o q => q.1
    · exact rowB_obj q1
    · exact rowB_obj q2
  sub := fun b hb => by
    simp only [List.mem_cons, List.not_mem_nil, or_false] at hb ⊢
    rcases hb with e | e | e | e <;> simp [e]
  noKeys := fun A s Q E hA ok h => getAttrOr_miss_zip ok.1 rfl rfl rfl zip_no_keys (by decide +kernel) hA h
  iter := fun A s d Q E hA ok hd hdf h => by
    obtain ⟨hz, hI, ⟨a, b, hO⟩, h1, h2, q1, q2⟩ := ok
    simp only [List.mem_cons, List.not_mem_nil, or_false, not_or] at hdf
    obtain ⟨dz, dI, dO, d1, d2, dl1, dl2⟩ := hdf
    obtain ⟨e1, e2, e3, e4, e5, e6⟩ := lT
    refine py_iter hz (h z [z, TO, i1, i2] (fun i h => IsTupOf2 h TI (.ref i1) (.ref i2) ∧ (IterAt k1 h i1 l1 i ∧ RowAt k1 h l1 xs) ∧ (IterAt k2 h i2 l2 i ∧ RowAt k2 h l2 ys) ∧
      ((ZipS h z TI TO .none ∧ ∃ a b, IsTupOf2 h TO a b) ∨ ∃ T f oT, ZipO h z TI TO T f ∧ h.get? T = some oT ∧ T ≠ z ∧ T ≠ i1 ∧ T ≠ i2 ∧ T ≠ d)) s.heap s.toks ?_ ⟨hI, ⟨h1, q1⟩, ⟨h2, q2⟩, .inl ⟨hz, a, b, hO⟩⟩ (fun _ _ e => e) fun b hb => .inl hb)
    have drw : ∀ (s1 : Shared), Draws P w A.in1 i1 [i1, l1] xs.size (fun i v => xs[i]? = some v) (fun i h => IterAt k1 h i1 l1 i ∧ RowAt k1 h l1 xs) ∧ Draws P w A.in1 i2 [i2, l2] xs.size (fun i v => ys[i]? = some v) (fun i h => IterAt k2 h i2 l2 i ∧ RowAt k2 h l2 ys) := fun _ =>
      ⟨drawsB (P := P) (w := w) (A := A.in1) k1 hA i1 l1 F5.a1 xs, by rw [hs]; exact drawsB (P := P) (w := w) (A := A.in1) k2 hA i2 l2 F5.b2 ys⟩
    exact {
      off := fun hm => by
        simp only [List.mem_cons, List.not_mem_nil, or_false] at hm
        rcases hm with e | e | e | e
        · exact dz e
        · exact dO e
        · exact d1 e
        · exact d2 e
      frame := fun i ha hb st hk => by
        obtain ⟨hI, ⟨h1, q1⟩, ⟨h2, q2⟩, hz⟩ := st
        refine ⟨hk _ _ (Ne.symm dI) hI, ⟨iterB_at h1 fun o e => hk _ o (Ne.symm d1) e, rowB_at q1 fun o e => hk _ o (Ne.symm dl1) e⟩, ⟨iterB_at h2 fun o e => hk _ o (Ne.symm d2) e, rowB_at q2 fun o e => hk _ o (Ne.symm dl2) e⟩, ?_⟩
        rcases hz with ⟨hz, a, b, hO⟩ | ⟨T, f, oT, hz, hT, r1, r2, r3, r4⟩
        · exact .inl ⟨hk _ _ (Ne.symm dz) hz, a, b, hk _ _ (Ne.symm dO) hO⟩
        · exact .inr ⟨T, f, oT, hk _ _ (Ne.symm dz) hz, hk _ _ r4 hT, r1, r2, r3, r4⟩
      item := fun i s1 Q1 E1 hi st hds hQ => by
        obtain ⟨hI, t1, t2, hz⟩ := st
        obtain ⟨D1, D2⟩ := drw s1
        have lt : ∀ {c o}, s1.heap.get? c = some o → s1.heap.objs.size ≠ c := fun e => Nat.ne_of_gt (Heap.lt_size e)
        have n1 : s1.heap.objs.size ≠ i1 := let ⟨_, e, _⟩ := iterB_obj t1.1; lt e
        have n2 : s1.heap.objs.size ≠ i2 := let ⟨_, e, _⟩ := iterB_obj t2.1; lt e
        rcases hz with ⟨hz, a, b, hO⟩ | ⟨T, f, oT, hz, hT, r1, r2, r3, r4⟩
        · refine py_item F5.sep D1 D2 hz hI hO t1 t2 hi fun x1 x2 h' tk p1 p2 z' O' u1 u2 tp hsz hk => ?_
          exact hQ s1.heap.objs.size _ _ h' tk ⟨p1, p2⟩ (.inl ⟨_, tp, rfl, _, rfl⟩) ⟨hk _ _ F5.sep.TIz F5.sep.TITO F5.sep.TIi1 F5.sep.TIi2 hI, u1, u2, .inr ⟨s1.heap.objs.size, false, _, z', tp, lt hz, n1, n2, Nat.ne_of_gt hds⟩⟩
            fun c o hc e => hk c o (fun x => hc (by simp [x])) (fun x => hc (by simp [x])) (fun x => hc (by simp [x])) (fun x => hc (by simp [x])) e
        · refine py_held F5.sep D1 D2 hz hT hI t1 t2 hi fun x1 x2 h' tk p1 p2 z' u1 u2 tp hk => ?_
          exact hQ s1.heap.objs.size _ _ h' tk ⟨p1, p2⟩ (.inl ⟨_, tp, rfl, _, rfl⟩) ⟨hk _ _ F5.sep.TIz F5.sep.TIi1 F5.sep.TIi2 hI, u1, u2, .inr ⟨T, true, oT, z', hk _ _ r1 r2 r3 hT, r1, r2, r3, r4⟩⟩
            fun c o hc e => hk c o (fun x => hc (by simp [x])) (fun x => hc (by simp [x])) (fun x => hc (by simp [x])) e
      done := fun s1 Q1 E1 st hQ => by
        obtain ⟨hI, t1, t2, hz⟩ := st
        obtain ⟨D1, D2⟩ := drw s1
        rcases hz with ⟨hz, a, b, hO⟩ | ⟨T, f, oT, hz, hT, r1, r2, r3, r4⟩
        · exact py_end hA F5.sep D1 D2 hz hI hO t1 t2 fun h' hk => hQ h' s1.toks fun c o hc e => hk c o (fun x => hc (by simp [x])) (fun x => hc (by simp [x])) (fun x => hc (by simp [x])) (fun x => hc (by simp [x])) e
        · exact py_heldEnd hA F5.sep D1 D2 hz hT hI t1 t2 fun h' hk => hQ h' s1.toks fun c o hc e => hk c o (fun x => hc (by simp [x])) (fun x => hc (by simp [x])) (fun x => hc (by simp [x])) e }
end
end LiZ
set_option Elab.async false
set_option linter.all false
set_option maxRecDepth 100000
set_option maxHeartbeats 2000000
/-! LiDz: dict(zip(a, b, strict=True)), d.get(k, x), sorted(xs, key=len). -/
namespace Li
open PySem L2
section
variable {X : Cx} {G : SX} {lvl : Nat} {nm : Nat → Str} {σ : Env} {S : Sto} {hid : Hid} {σ' : L2.St} {H : Hp} {K : PySem.W.Frag}
/-! ### d.get(k, x) -/
theorem dctQ_inv {v : Val} {Q : List Key → List Val → Prop} (h : dctQ v Q) : ∃ ks vs, v = .dct ks vs ∧ Q ks vs := by
  cases v <;> first
    | exact ⟨_, _, rfl, h⟩
    | exact h.elim
theorem getV_val {M : Addr → Prop} {k : Key} : ∀ {ks : List Key} {vs : List Val} {xs : List V}, Rvs K M H vs xs → (∃ v x, getV ks vs k = some v ∧ valV (ks.zip xs) k = some x ∧ Rv K M H v x) ∨ (getV ks vs k = none ∧ valV (ks.zip xs) k = none)
  | [], vs, xs, h => .inr ⟨rfl, rfl⟩
  | q :: ks, [], xs, h => by
    cases (show xs = [] from h)
    exact .inr ⟨rfl, rfl⟩
  | q :: ks, v :: vs, xs, ⟨x, y, e, h1, h2⟩ => by
    subst e
    by_cases hq : q = k
    · exact .inl ⟨v, x, if_pos hq, valV_pos (p := (q, x)) hq, h1⟩
    · rcases getV_val (k := k) (ks := ks) h2 with ⟨u, z, e1, e2, e3⟩ | ⟨e1, e2⟩
      · exact .inl ⟨u, z, (if_neg hq).trans e1, by
          show valV ((q, x) :: ks.zip y) k = some z
          rw [← e2]
          simp [valV, List.find?_cons, hq], e3⟩
      · exact .inr ⟨(if_neg hq).trans e1, by
          show valV ((q, x) :: ks.zip y) k = none
          rw [← e2]
          simp [valV, List.find?_cons, hq]⟩
theorem sE_get (ok : Okx G lvl nm X) {o e f : Expr} {mo me mf : E} {apos cpos : Pos} (ho : PE X o (tEv G X.K mo)) (he : PE X e (tEv G X.K me)) (hf : PE X f (tEv G X.K mf)) (m : M2 X o "get" apos e f cpos) :
    PE X (.Call (.Attribute o "get" apos) [e, f] [] cpos) (tEv G X.K (.bm .get mo (.cons me (.cons mf .nil)))) :=
  PE.wk (pe_dget2 (by have := ok.room.units; omega) ho he hf m) fun σ' H Q ⟨σ, S, hid, w, h⟩ => (t1 (a := mo) w h).mono fun x' H1 ⟨S1, x, e1, w1, r1, z⟩ => by
    obtain ⟨ks, us, ed, _⟩ := dctQ_inv (show dctQ x fun _ _ => True from z.1)
    subst ed
    obtain ⟨p, xs, ex, h1, h2, h3, h4⟩ := r1
    refine ⟨p, ex, .inl ⟨_, .inl h1⟩, ?_⟩
    have z2 : evE G.c me σ S1 fun y S2 => evE G.c mf σ S2 fun d S3 => bmV .get (.dct ks us) [y, d] S3 (PoE X.K hid S H Q) := z.2
    refine (t2 (a := me) (b := mf) w1 z2).mono fun y' H2 q => q.mono fun d' H3 ⟨S3, y, d, e3, w3, ry, rd, z3⟩ => ?_
    obtain ⟨i, ei, z4⟩ := intQ_inv (show intQ y fun i => dctQ (.dct ks us) fun ks us => PoE X.K hid S H Q ((getV ks us (.inl i)).getD d) S3 from z3)
    subst ei
    have kp := e3.keeps hid
    obtain ⟨h5, h6⟩ := kp.keep p _ h1 so_dK h2
    have r4 := h4.keep kp
    rcases getV_val (k := .inl i) (ks := ks) r4 with ⟨v, x, e1', e2', rv⟩ | ⟨e1', e2'⟩
    · refine ⟨some x, .inl ⟨_, .inl i, .inl h5, ry, e2'.symm⟩, ?_⟩
      have z5 : PoE X.K hid S H Q ((getV ks us (.inl i)).getD d) S3 := z4
      rw [e1'] at z5
      exact z5 x H3 (e1.trans e3) w3.rel rv
    · refine ⟨none, .inl ⟨_, .inl i, .inl h5, ry, e2'.symm⟩, ?_⟩
      have z5 : PoE X.K hid S H Q ((getV ks us (.inl i)).getD d) S3 := z4
      rw [e1'] at z5
      exact z5 d' H3 (e1.trans e3) w3.rel rd
/-! ### dict(zip(a, b, strict=True)) -/
theorem merge_nodup : ∀ {more acc : List (Key × V)}, ((acc ++ more).map (·.1)).Nodup → mergeK acc more = acc ++ more
  | [], acc, _ => by rw [List.append_nil]; rfl
  | q :: more, acc, h => by
    have e : putK acc q.1 q.2 = acc ++ [q] := by
      unfold putK
      rw [if_neg]
      intro z
      obtain ⟨p, hp, hq⟩ := List.any_eq_true.mp z
      have hq : p.1 = q.1 := of_decide_eq_true hq
      rw [List.map_append, List.nodup_append] at h
      exact h.2.2 p.1 (List.mem_map_of_mem hp) q.1 (by simp) hq
    show mergeK (putK acc q.1 q.2) more = _
    rw [e, merge_nodup (more := more) (acc := acc ++ [q]) (by rw [List.append_assoc]; exact h), List.append_assoc]
    rfl
theorem kv_zip : ∀ {ks : List Key} {xs : List V} {us : List Value}, Vals xs us → KV (ks.zip xs) (ks.zip us)
  | [], xs, us, r => .nil
  | k :: ks, [], us, r => by
    cases r
    exact .nil
  | k :: ks, x :: xs, us, r => by
    cases r with
    | cons h t => exact .cons ⟨rfl, h⟩ (kv_zip t)
theorem dict_zip {tq : TA} {e e2 : Expr} {p p2 pos zpos kpos cpos : Pos} {ck : Nat} (hc : X.calm = true) (hg : Gl X "zip") (hm : X.mg "zip" = none) (hg2 : Gl X "dict") (hm2 : X.mg "dict" = none) (ha : PA X [e, e2] tq)
    (hs : starEach [e, e2] X.env = (false, eval e X.env) :: starEach [e2] X.env) (hpl : (backTo zpos (starEach [e, e2] X.env)).any (·.1) = false) :
    PE X (.Call (.Name "dict" p) [.Call (.Name "zip" p2) [e, e2] [⟨some (Str.ofString "strict"), .Constant (.bool true) ck cpos, kpos⟩] zpos] [] pos)
      (fun σ H Q => tq σ H fun vs H1 => ∃ (a b : Addr) (k1 k2 : Bool) (ns : List Int) (ys : List V), vs = [.ref a, .ref b] ∧ SqB k1 X.K H1 a (ns.map V.int) ∧ SqB k2 X.K H1 b ys ∧ ns.length = ys.length ∧ ns.Nodup ∧ ∀ d, H1 d = none → Q (.ref d) (upd H1 d (.dK ((ns.map Sum.inl).zip ys)))) := by
  refine ⟨fun pins s σ H Q I h => ?_⟩
  refine wpAny_Call_Name_kw (ld_blt I hg2 hm2 PyProof.Rows.boot_dict (PyProof.Rows.callWith_type1 ?_ rfl rfl))
  refine (?_ : wpAny _ _ (spliced [(false, eval (.Call (.Name "zip" p2) [e, e2] [⟨some (Str.ofString "strict"), .Constant (.bool true) ck cpos, kpos⟩] zpos) X.env)]) _ _ _)
  refine Calls.spliced_cons (wpAny_Call_Name_kw (ld_blt I hg hm PyProof.Rows.boot_zip (LiZ.callTyKw (thn (ha.run zpos pins s σ H _ I h) fun us s1 ⟨vs, H1, I1, r1, q1⟩ => ?_) hs hpl rfl rfl)))
  obtain ⟨a, b, k1, k2, ns, ys, ex, qx, qy, hl, hnd, q⟩ := q1
  subst ex
  refine thn ((pk_cons (nm := some (Str.ofString "strict")) (kpos := kpos) (pe_bl (X := X) (j := ck) (pos := cpos) (b := true)) pk_nil).run zpos pins s1 σ H1 (fun zs H2 => zs = [.bl true] ∧ H2 = H1) I1 ⟨rfl, rfl⟩) fun ws s2 ⟨zs, H2, I2, rz, ez, eH⟩ => ?_
  subst ez eH
  cases rz with
  | cons rb rr =>
    cases rr
    cases rb
    cases r1 with
    | cons r rr =>
      cases rr with
      | cons r' rr =>
        cases rr
        cases r
        cases r'
        obtain ⟨its, rv, p1, z1, la⟩ := I2.rowB qx
        obtain ⟨its2, rv2, p2', z2, lb⟩ := I2.rowB qy
        refine LiZ.begins (beginsB k1 a its.toArray) (beginsB k2 b its2.toArray) p1 p2' fun h' hz hI hO c0 c1 hk => Calls.spliced_nil ?_
        have I3 : L2.Inv X pins σ H2 { s2 with heap := h' } := I2.kept (t' := s2.toks) hk
        have l1 := rv.length
        have l2 := rv2.length
        rw [List.length_map] at l1
        have sz : its.toArray.size = its2.toArray.size := by
          rw [List.size_toArray, List.size_toArray]
          omega
        have F5 := five_at s2.heap.objs.size a b la lb
        have lT : a ≠ s2.heap.objs.size + 4 ∧ a ≠ s2.heap.objs.size + 3 ∧ a ≠ s2.heap.objs.size + 1 ∧ b ≠ s2.heap.objs.size + 4 ∧ b ≠ s2.heap.objs.size + 3 ∧ b ≠ s2.heap.objs.size :=
          ⟨na (.inl (Nat.lt_of_lt_of_le la (by omega))), na (.inl (Nat.lt_of_lt_of_le la (by omega))), na (.inl (Nat.lt_of_lt_of_le la (by omega))), na (.inl (Nat.lt_of_lt_of_le lb (by omega))), na (.inl (Nat.lt_of_lt_of_le lb (by omega))), na (.inl lb)⟩
        have PZ := LiZ.pairs_zip (P := X.prog) (w := X.w) k1 k2 F5 lT its.toArray its2.toArray sz
        have keyAt : ∀ (i : Nat) (u : Value), its.toArray[i]? = some u → ∃ n t, ns[i]? = some n ∧ u = .int n t := fun i u hu => by
          have hu : its[i]? = some u := by simpa using hu
          have hi : i < ns.length := by
            have := (List.getElem?_eq_some_iff.mp hu).1
            omega
          obtain ⟨u', e1, e2⟩ := rv.get (i := i) (x := .int ns[i]) (by rw [List.getElem?_map, List.getElem?_eq_getElem hi]; rfl)
          rw [hu] at e1
          cases e1
          obtain ⟨t, ht⟩ := e2
          exact ⟨ns[i], t, List.getElem?_eq_getElem hi, ht⟩
        refine PySem.call_dict_pairs (s := { s2 with heap := h' }) (knd := mixKind X.prog X.w) (kvs := (ns.map Sum.inl).zip its2) PZ (I2.ok.hd hc)
          ⟨hz, hI, ⟨_, _, hO⟩, iterB0 c0, iterB0 c1, LiZ.rowB_at p1 fun o e => hk _ o e, LiZ.rowB_at p2' fun o e => hk _ o e⟩ ⟨by rw [List.length_zip, List.length_map, List.size_toArray, ← l1, ← l2, hl, Nat.min_self], fun i key v ⟨e1, e2⟩ => ?_⟩ (by rw [List.size_toArray, ← l1, ← List.length_map (f := V.int)]; exact z1) fun h'' tk hd ko => ?_
        · obtain ⟨n, t, en, eu⟩ := keyAt i key e1
          subst eu
          refine ⟨.inl n, ?_, keyIs_int n t⟩
          rw [List.getElem?_zip_eq_some]
          exact ⟨by rw [List.getElem?_map, en]; rfl, by simpa using e2⟩
        · have hle : s2.heap.objs.size ≤ h'.objs.size := by
            have := Heap.lt_size hz
            exact Nat.le_of_lt (Nat.lt_of_le_of_lt (Nat.le_add_right _ _) this)
          have kv0 : KV ((ns.map Sum.inl).zip ys) ((ns.map Sum.inl).zip its2) := kv_zip rv2
          have keys : ((ns.map (Sum.inl : Int → Key)).zip ys).map (·.1) = ns.map Sum.inl := by
            rw [List.map_fst_zip (by rw [List.length_map, hl]; exact Nat.le_refl _)]
          have mk : mergeK [] ((ns.map Sum.inl).zip ys) = (ns.map Sum.inl).zip ys := by
            rw [merge_nodup (acc := []) (by rw [List.nil_append, keys]; exact List.Pairwise.map _ (fun x y h z => h (Sum.inl.inj z)) hnd)]
            rfl
          have new : ObjOk X.prog X.w (upd H2 h'.objs.size (.dK ((ns.map Sum.inl).zip ys))) h'' h'.objs.size (.dK ((ns.map Sum.inl).zip ys)) := by
            refine ⟨?_, beq_eq_false_iff_ne.mpr (Nat.ne_of_gt I3.big), merged [] ((ns.map Sum.inl).zip its2), ?_, hd⟩
            · rw [List.length_zip, List.length_map, hl, Nat.min_self]
              exact z2
            · rw [← mk]
              exact KV.merge kv0 .nil
          refine ⟨.ref h'.objs.size, upd H2 h'.objs.size (.dK ((ns.map Sum.inl).zip ys)), I3.turnedNew (t' := tk) (ch := [s2.heap.objs.size + 4, s2.heap.objs.size + 3, s2.heap.objs.size, s2.heap.objs.size + 1]) (fun c o hb e => ko c o hb e) (fun c hcm => ?_) (Nat.le_refl _) new, rfl, q _ (I2.hok.fresh hle)⟩
          have hlc : s2.heap.objs.size ≤ c := by
            have e' : c = s2.heap.objs.size + 4 ∨ c = s2.heap.objs.size + 3 ∨ c = s2.heap.objs.size ∨ c = s2.heap.objs.size + 1 := by simpa using hcm
            rcases e' with e | e | e | e <;> (have e2 : @Eq Nat c _ := e; omega)
          exact I2.fpOk hlc (I2.hok.fresh hlc)
theorem sE_dzip {e e2 : Expr} {m m2 : E} {p p2 pos zpos kpos cpos : Pos} {ck : Nat} (ok : Okx G lvl nm X) (hg : Gl X "zip") (hm : X.mg "zip" = none) (hg2 : Gl X "dict") (hm2 : X.mg "dict" = none) (he : PE X e (tEv G X.K m)) (he2 : PE X e2 (tEv G X.K m2))
    (hs : starEach [e, e2] X.env = (false, eval e X.env) :: starEach [e2] X.env) (hs2 : starEach [e2] X.env = [(false, eval e2 X.env)]) (hpl : (backTo zpos (starEach [e, e2] X.env)).any (·.1) = false) :
    PE X (.Call (.Name "dict" p) [.Call (.Name "zip" p2) [e, e2] [⟨some (Str.ofString "strict"), .Constant (.bool true) ck cpos, kpos⟩] zpos] [] pos) (tEv G X.K (.dzip m m2)) :=
  PE.wk (dict_zip ok.calm hg hm hg2 hm2 (pa_cons he (pa_cons he2 pa_nil (by rw [hs2]; rfl)) hs) hs hpl) fun σ' H Q ⟨σ, S, hid, w, h⟩ => (t2 (a := m) (b := m2) w h).mono fun x' H1 q => q.mono fun y' H2 ⟨S2, x, y, e, w2, r1, r2, z⟩ => by
    obtain ⟨us, eu, z⟩ := optQ_inv z
    obtain ⟨vs, ev, z⟩ := optQ_inv z
    obtain ⟨ns, en, z⟩ := optQ_inv z
    obtain ⟨k, a, ea, rf⟩ := row_rd eu r1
    obtain ⟨k2, b, eb, rf2⟩ := row_rd ev r2
    obtain ⟨xs, q1, s1⟩ := rf.now w2.rel
    obtain ⟨ys, q2, s2⟩ := rf2.now w2.rel
    have ex := s1.ofInts en
    subst ex
    have l1 := s1.length
    rw [List.length_map] at l1
    have l2 := s2.length
    refine ⟨a, b, k, k2, ns, ys, by rw [ea, eb], q1, q2, by rw [← l1, z.1, l2], z.2.1, fun d hd => (z.2.2.after e).made w2.rel hd ⟨d, ys, rfl, upd_same, fun q => ?_, by rw [List.length_map, ← l1, z.1], s2.keep (keeps_new hd)⟩⟩
    exact q.elim (fun q => q (w2.rel.free hd)) fun q => w2.rel.nohid hd q
/-! ### sorted(xs, key=len) -/
theorem data_le : (PySem.W.dataLe false fun p : Addr × List V => PyData.int (p.2.length : Int)) = fun a b => decide (a.2.length ≤ b.2.length) := by
  funext a b
  show (!PyProof.Rows.lexLt PyProof.Rows.itemOrd [Sum.inl (b.2.length : Int)] [Sum.inl (a.2.length : Int)]) = _
  simp only [PyProof.Rows.lexLt, PyProof.Rows.itemOrd, PyProof.Rows.itemLt]
  by_cases h : a.2.length ≤ b.2.length
  · have h1 : ¬ ((b.2.length : Int) < (a.2.length : Int)) := by omega
    simp [h, h1]
  · have h1 : ((b.2.length : Int) < (a.2.length : Int)) := by omega
    simp [h, h1]
theorem sorted_len {te : TE} {e : Expr} {p lp pos kpos : Pos} (hr : X.A.units + 64 < cLine) (hc : X.calm = true) (hg : Gl X "sorted") (hm : X.mg "sorted" = none) (hg2 : Gl X "len") (hm2 : X.mg "len" = none) (he : PE X e te) (hs : starEach [e] X.env = [(false, eval e X.env)]) :
    PE X (.Call (.Name "sorted" p) [e] [⟨some (Str.ofString "key"), .Name "len" lp, kpos⟩] pos)
      (fun σ H Q => te σ H fun x H1 => ∃ (a : Addr) (ps : List (Addr × List V)), x = .ref a ∧ SqL X.K H1 a (ps.map fun q => V.ref q.1) ∧ (∀ q ∈ ps, SqL X.K H1 q.1 q.2) ∧ ∀ d, H1 d = none → Q (.ref d) (upd H1 d (.lst ((ps.mergeSort fun a b => decide (a.2.length ≤ b.2.length)).map fun q => V.ref q.1)))) := by
  refine ⟨fun pins s σ H Q I h => ?_⟩
  refine wpAny_Call_Name_kw (ld_blt I hg hm PyProof.Rows.boot_sorted (PyProof.Rows.callWith_kw ?_ (by rw [hs]; rfl) (by rw [hs]; rfl) rfl rfl))
  rw [hs]
  refine (?_ : wpAny _ _ (spliced [(false, eval e X.env)]) _ _ _)
  refine Calls.spliced_cons (thn (he.run pins s σ H _ I h) fun u s1 ⟨x, H1, I1, r1, a, ps, ex, hq, hp, q⟩ => Calls.spliced_nil ?_)
  subst ex
  cases r1
  refine (?_ : wpAny _ _ (evalAll [(do let v ← eval (.Name "len" lp) X.env; standAt pos; pure v)]) _ _ _)
  refine wpAny_evalAll_cons (wpAny_bind (ld_blt I1 hg2 hm2 boot_len (wpAny_bind (wpAny_standAt (wpAny_pure (wpAny_evalAll_nil ?_))))))
  obtain ⟨its, rv, pl, hz⟩ := I1.list hq
  have ei : its = ps.map fun q => Value.ref q.1 := by
    have := refs_at (ps := ps.map (·.1)) (us := its) (by rw [List.map_map]; exact rv)
    rw [this, List.map_map]
    rfl
  subst ei
  rw [List.length_map] at hz
  have each : PySem.W.EachIs (fun (v : Value) (p : Addr × List V) => v = .ref p.1) (ps.map fun q => Value.ref q.1) ps := by
    clear hq hp q rv pl hz
    induction ps with
    | nil => exact .nil
    | cons p ps ih => exact .cons rfl ih
  have all : ∀ d, d ∈ ps.map (fun q : Addr × List V => PyData.int (q.2.length : Int)) → ∃ n : Int, d = .int n := fun d hd => by
    obtain ⟨q, _, e⟩ := List.mem_map.mp hd
    exact ⟨_, e.symm⟩
  refine PySem.W.sorted_key_data (k := fun q : Addr × List V => PyData.int (q.2.length : Int)) (b := false) (f := .builtin "len") pl.isList each (fun d hd d' hd' => ?_) (.inr fun d hd => ?_) hz (fun q _ => ?_) (PyProof.Rows.ksk_s1 _ _) (fun _ => PyProof.Rows.ksk_l1 _ _) (fun x => PyProof.Rows.ksk_t4 "len" x) (fun v q ev hq h tk kp => ?_) fun out c h' tk ko _ hd le eo => ?_
  · obtain ⟨n, rfl⟩ := all d hd
    obtain ⟨n', rfl⟩ := all d' hd'
    rfl
  · obtain ⟨n, rfl⟩ := all d hd
    exact ⟨(fun z => nomatch z), (fun xs z => nomatch z)⟩
  · have e1 : (PyData.int (q.2.length : Int)).depth ≤ 1 := by simp [PyData.depth]
    omega
  · subst ev
    obtain ⟨its, rv2, pl2, hz2⟩ := I1.list (hp q hq)
    have l2 := rv2.length
    have sz : its.toArray.size = q.2.length := by rw [List.size_toArray, l2]
    have hl : (h : Heap).IsList q.1 its.toArray := pl2.isList.at fun o e => kp _ o e
    have n63 := line63
    refine Calls.call_len_list (s := { s1 with heap := h, toks := tk }) hl (by rw [sz]; omega) ?_
    rw [sz]
    exact ⟨h, tk + 1 + 1, rfl, fun _ _ e => e, .int _ _⟩
  · rw [data_le] at eo
    have eq : out = (ps.mergeSort fun a b => decide (a.2.length ≤ b.2.length)).map fun q => Value.ref q.1 := by
      clear hd le
      generalize (ps.mergeSort fun a b => decide (a.2.length ≤ b.2.length)) = l at eo
      induction eo with
      | nil => rfl
      | cons h _ ih => rw [List.map_cons, h, ih]
    subst eq
    have vals : ∀ l : List (Addr × List V), Vals (l.map fun q => V.ref q.1) (l.map fun q => Value.ref q.1) := fun l => by
      induction l with
      | nil => exact .nil
      | cons p l ih => exact .cons rfl ih
    have hlen : ((ps.mergeSort fun a b => decide (a.2.length ≤ b.2.length)).map fun q => V.ref q.1).length ≤ sizeLine := by
      rw [List.length_map, List.length_mergeSort]
      exact hz
    exact ⟨.ref (s1.heap.objs.size + 1), upd H1 (s1.heap.objs.size + 1) (.lst ((ps.mergeSort fun a b => decide (a.2.length ≤ b.2.length)).map fun q => V.ref q.1)), I1.laid (t' := tk) ko (Nat.le_succ _) ⟨hlen, _, c, vals _, hd⟩, rfl, q _ (I1.hok.fresh (Nat.le_succ _))⟩
theorem lens_rd {M : Addr → Prop} : ∀ {vs : List Val} {ls : List Nat} {xs : List V}, lensV vs = some ls → Rvs K M H vs xs → ∃ tr : List ((Val × Nat) × (Addr × List V)), tr.map (·.1) = vs.zip ls ∧ xs = (tr.map (·.2)).map (fun q => V.ref q.1) ∧
    (∀ q ∈ tr.map (·.2), SqL K H q.1 q.2) ∧ ∀ t ∈ tr, Rv K M H t.1.1 (.ref t.2.1) ∧ t.1.2 = t.2.2.length
  | [], ls, xs, e, r => by
    cases (show xs = [] from r)
    exact ⟨[], rfl, rfl, fun q hq => (nomatch hq), fun q hq => (nomatch hq)⟩
  | v :: vs, ls, xs, e, ⟨x, ys, ex, h1, h2⟩ => by
    subst ex
    cases v with
    | lst us =>
      have e : (lensV vs).map (us.length :: ·) = some ls := e
      cases el : lensV vs with
      | none =>
        rw [el] at e
        cases e
      | some ls' =>
        rw [el] at e
        cases e
        obtain ⟨tr, t1, t2, t3, t4⟩ := lens_rd el h2
        obtain ⟨p, zs, ez, q1, q2, q3⟩ := id h1
        subst ez
        refine ⟨((.lst us, us.length), (p, zs)) :: tr, by rw [List.map_cons, t1]; rfl, by rw [List.map_cons, List.map_cons, ← t2], fun q hq => ?_, fun t ht => ?_⟩
        · rcases List.mem_cons.mp hq with e | e
          · rw [e]
            exact SqL.of q1
          · exact t3 q e
        · rcases List.mem_cons.mp ht with e | e
          · rw [e]
            exact ⟨h1, q3.length⟩
          · exact t4 t e
    | _ => cases e
theorem sE_srtLen (ok : Okx G lvl nm X) {e : Expr} {m : E} {p lp pos kpos : Pos} (hg : Gl X "sorted") (hm : X.mg "sorted" = none) (hg2 : Gl X "len") (hm2 : X.mg "len" = none) (he : PE X e (tEv G X.K m)) (hs : starEach [e] X.env = [(false, eval e X.env)]) :
    PE X (.Call (.Name "sorted" p) [e] [⟨some (Str.ofString "key"), .Name "len" lp, kpos⟩] pos) (tEv G X.K (.srtLen m)) :=
  PE.wk (sorted_len (by have := ok.room.units; omega) ok.calm hg hm hg2 hm2 he hs) fun σ' H Q ⟨σ, S, hid, w, h⟩ => (t1 (a := m) w h).mono fun x' H1 ⟨S1, x, e1, w1, r1, z⟩ => by
    obtain ⟨vs, ev, z⟩ := optQ_inv z
    obtain ⟨ls, el, z⟩ := optQ_inv z
    obtain ⟨a, xs, ea, q1, s1⟩ := asL_seq w1.rel ev r1
    obtain ⟨tr, t1, t2, t3, t4⟩ := lens_rd el s1
    refine ⟨a, tr.map (·.2), ea, by rw [← t2]; exact SqL.of q1, t3, fun d hd => (z.after e1).made w1.rel hd ?_⟩
    have m1 : srtV vs ls = (tr.mergeSort fun a b => decide (a.1.2 ≤ b.1.2)).map fun t => t.1.1 := by
      unfold srtV
      rw [← t1, ← List.map_mergeSort (r := fun a b => decide (a.1.2 ≤ b.1.2)) (fun a _ b _ => rfl), List.map_map]
      rfl
    have m2 : ((tr.map (·.2)).mergeSort fun a b => decide (a.2.length ≤ b.2.length)).map (fun q => V.ref q.1) = (tr.mergeSort fun a b => decide (a.1.2 ≤ b.1.2)).map fun t => V.ref t.2.1 := by
      rw [← List.map_mergeSort (r := fun a b => decide (a.1.2 ≤ b.1.2)) (fun a ha b hb => by rw [(t4 a ha).2, (t4 b hb).2]), List.map_map]
      rfl
    have rr : ∀ l : List ((Val × Nat) × (Addr × List V)), (∀ t ∈ l, Rv X.K (Mset S1 hid) H1 t.1.1 (.ref t.2.1)) → Rvs X.K (Mset S1 hid) H1 (l.map fun t => t.1.1) (l.map fun t => V.ref t.2.1) := fun l => by
      induction l with
      | nil => exact fun _ => rfl
      | cons t l ih => exact fun h => ⟨_, _, rfl, h t List.mem_cons_self, ih fun u hu => h u (List.mem_cons_of_mem _ hu)⟩
    rw [m1, m2]
    exact Rv.newL w1.rel hd (rr _ fun t ht => (t4 t ((List.mem_mergeSort).mp ht)).1)
end
end Li
set_option Elab.async false
set_option linter.all false
set_option maxRecDepth 100000
set_option maxHeartbeats 4000000
/-! LiChk: is a text of Li the reading of a text of the program? Checked by the kernel; what is checked holds (LiSound). -/
namespace Li
open PySem L2
/-- what a check needs: the names' places, the module's names, the comprehensions' and nested defs' scopes come with the text -/
structure Tb where
  N : List Str
  gn : List Str
  /-- slots that local defs capture -/
  cap : List Nat := []
  /-- the check of a local def's statement: which one, its slot, the scope around it -/
  ndc : Nat → Nat → Scope → Stmt → Bool := fun _ _ _ _ => false
def Tb.nm (T : Tb) (g : Nat) : Str := (T.gn[g]?).getD (Str.ofString "")
def visB (sc : Scope) (x : Str) : Bool := match sc.names.lookup x with
  | some .local => true
  | some .cell => true
  | some .free => true
  | _ => false
def locB (sc : Scope) (x : Str) : Bool := match sc.names.lookup x with
  | some .local => true
  | some .cell => true
  | _ => false
def isLoc (sc : Scope) (x : Str) : Bool := sc.names.lookup x == some .local
def glB (sc : Scope) (x : Str) : Bool := sc.names.lookup x == some .globalImplicit
def nameB (x : Str) : Bool := (x == ("__debug__" : Str)) == false && (x == ("__classdict__" : Str)) == false
def notStar : Expr → Bool
  | .Starred _ _ => false
  | _ => true
def notSlice : Expr → Bool
  | .Slice _ _ _ _ => false
  | _ => true
def notSet : Expr → Bool
  | .Set _ _ _ => false
  | _ => true
def baseB : Expr → Bool
  | .Call (.Name id _) [] [] _ => id != "super"
  | _ => true
def notComp : Expr → Bool
  | .ListComp _ _ _ _ => false
  | .SetComp _ _ _ _ => false
  | .DictComp _ _ _ _ _ => false
  | _ => true
def tyB : Expr → Bool
  | .UnaryOp _ _ _ => false
  | .BoolOp _ _ _ => false
  | .IfExp _ _ _ _ => false
  | .Compare _ _ _ _ => false
  | _ => true
def litB : Val → Const → Bool
  | .int i, .int j => i == j
  | .str x, .str y => x == y
  | .bl a, .bool b => a == b
  | .non, .none => true
  | _, _ => false
/-- the builtins that may be called; the module has no such names -/
def bnames : List Str := [("len" : Str), ("abs" : Str), ("int" : Str), ("str" : Str), ("repr" : Str), ("tuple" : Str), ("list" : Str), ("sum" : Str), ("min" : Str), ("max" : Str), ("all" : Str), ("any" : Str), ("sorted" : Str), ("isinstance" : Str), ("range" : Str), ("enumerate" : Str), ("zip" : Str), ("dict" : Str), ("bool" : Str)]
def bfName : Bf → Str
  | .len => ("len" : Str)
  | .abs => ("abs" : Str)
  | .int => ("int" : Str)
  | .str => ("str" : Str)
  | .repr => ("repr" : Str)
  | .tuple => ("tuple" : Str)
  | .list => ("list" : Str)
  | .sum => ("sum" : Str)
  | .min => ("min" : Str)
  | .max => ("max" : Str)
  | .all => ("all" : Str)
  | .any => ("any" : Str)
  | .sorted => ("sorted" : Str)
  | .isi _ => ("isinstance" : Str)
def tyName : Ty → Option Str
  | .int => some ("int" : Str)
  | .bool => some ("bool" : Str)
  | .str => some ("str" : Str)
  | .tup => some ("tuple" : Str)
  | .lst => some ("list" : Str)
  | .cls _ => none
def ownOf (N : List Str) : List Nat → Option (List (Str × Nat))
  | [] => some []
  | i :: r => match N[i]?, ownOf N r with
    | some x, some l => some ((x, i) :: l)
    | _, _ => none
def blkB (N : List Str) (sc scope : Scope) (own : List (Str × Nat)) : Bool :=
  scope.kind == .function
  && scope.names.all (fun y => scope.names.lookup y.1 == some y.2)
  && scope.names.all (fun y => y.2 != .free || (sc.names.lookup y.1 == some .cell || sc.names.lookup y.1 == some .free))
  && scope.names.all (fun y => !(y.2 == .local || y.2 == .cell) || ((own.map (·.1)).contains y.1 || !(N.contains y.1)))
/-- one name as a target; lk tells which names may be stored -/
def ckT1 (T : Tb) (lk : Str → Bool) (i : Nat) : Expr → Bool
  | .Name x _ => T.N[i]? == some x && lk x
  | _ => false
def ckTs (T : Tb) (lk : Str → Bool) : List Nat → List Expr → Bool
  | [], [] => true
  | i :: is, e :: es => ckT1 T lk i e && ckTs T lk is es
  | _, _ => false
def ckTg (T : Tb) (lk : Str → Bool) : Tg → Expr → Bool
  | .one i, e => ckT1 T lk i e
  | .many is, .Tuple es _ _ => ckTs T lk is es
  | _, _ => false
/-- names that a comprehension may store -/
def lkC (sc scope : Scope) (x : Str) : Bool := locB (relS scope sc) x && (scope.names.lookup x == some .cell || isLoc (relS scope sc) x)
mutual
def ckE (T : Tb) : E → Scope → Expr → Bool
  | .var i, sc, e => match e with
    | .Name x _ => T.N[i]? == some x && visB sc x && nameB x
    | _ => false
  | .lit v, sc, e => match e with
    | .Constant c _ _ => litB v c
    | _ => false
  | .glob g, sc, e => match e with
    | .Name x _ => x == T.nm g && glB sc x && nameB x
    | _ => false
  | .bin o a b, sc, e => match e with
    | .BinOp x p y _ => o == p && ckE T a sc x && ckE T b sc y
    | _ => false
  | .neg a, sc, e => match e with
    | .UnaryOp .USub x _ => ckE T a sc x
    | _ => false
  | .cmp o a b, sc, e => match e with
    | .Compare x [p] [y] _ => o == p && ckE T a sc x && ckE T b sc y && notSet y
    | _ => false
  | .chain o o2 a b c, sc, e => match e with
    | .Compare x [p, p2] [y, z] _ => o == p && o2 == p2 && ckE T a sc x && ckE T b sc y && ckE T c sc z && notSet z
    | _ => false
  | .land a b, sc, e => match e with
    | .BoolOp .And [x, y] _ => ckE T a sc x && ckE T b sc y
    | .BoolOp .And (x :: y :: z :: r) p => ckE T a sc x && ckE T b sc (.BoolOp .And (y :: z :: r) p)
    | _ => false
  | .lor a b, sc, e => match e with
    | .BoolOp .Or [x, y] _ => ckE T a sc x && ckE T b sc y
    | .BoolOp .Or (x :: y :: z :: r) p => ckE T a sc x && ckE T b sc (.BoolOp .Or (y :: z :: r) p)
    | _ => false
  | .lnot a, sc, e => match e with
    | .UnaryOp .Not x _ => ckE T a sc x
    | _ => false
  | .ife c a b, sc, e => match e with
    | .IfExp x y z _ => ckE T c sc x && ckE T a sc y && ckE T b sc z
    | _ => false
  | .tup es, sc, e => match e with
    | .Tuple xs _ _ => ckEs T es sc xs
    | _ => false
  | .lst es, sc, e => match e with
    | .List xs _ => ckEs T es sc xs
    | _ => false
  | .idx a i, sc, e => match e with
    | .Subscript x y _ => ckE T a sc x && ckE T i sc y && notSlice y
    | _ => false
  | .slc a lo hi, sc, e => match e with
    | .Subscript x (.Slice l h none _) _ => ckE T a sc x && ckO T lo sc l && ckO T hi sc h
    | _ => false
  | .call g es dn, sc, e => match e with
    | .Call (.Name x _) xs [] _ => x == T.nm g && glB sc x && nameB x && ckEs T es sc xs
    | _ => false
  | .calln j i es, sc, e => match e with
    | .Call (.Name x _) (a :: r) [] _ => T.N[i]? == some x && visB sc x && nameB x && ckEs T es sc (a :: r)
    | _ => false
  | .callk g es ks kes, sc, e => match e with
    | .Call (.Name x _) (a :: r) kws _ => x == T.nm g && glB sc x && nameB x && ckEs T es sc (a :: r) && ckKs T kes sc ks kws
    | _ => false
  | .bf f es, sc, e => match f, es with
    | .isi t, .cons m .nil => match e with
      | .Call (.Name x _) [a, .Name y _] [] _ => x == ("isinstance" : Str) && glB sc x && glB sc y && nameB y && notStar a && ckE T m sc a && (match t with
        | .cls g => y == T.nm g
        | t => tyName t == some y)
      | _ => false
    | f, es => match e with
      | .Call (.Name x _) (a :: r) [] _ => x == bfName f && glB sc x && (match f with
        | .isi _ => false
        | _ => true) && ckEs T es sc (a :: r)
      | _ => false
  | .bm m o es, sc, e => match m, e with
    | .append, .Call (.Attribute x f p) (a :: r) [] p2 => f == ("append" : Str) && p.endLine == p2.line && decide ((a :: r).length < 20) && baseB x && ckE T o sc x && ckEs T es sc (a :: r)
    | .get, .Call (.Attribute x f p) [a, b] [] p2 => f == ("get" : Str) && p.endLine == p2.line && baseB x && notStar a && notStar b && ckE T o sc x && (match es with
      | .cons ma (.cons mb .nil) => ckE T ma sc a && ckE T mb sc b
      | _ => false)
    | _, _ => false
  | .attr o f, sc, e => match e with
    | .Attribute x g _ => f == g && baseB x && ckE T o sc x
    | _ => false
  | .comp elt t it ifs own, sc, e => match e with
    | .ListComp el [⟨tg, iter, fs, k⟩] scope _ => k == 0 && own.all (fun i => !(T.cap.contains i)) && notSet iter && (tgs t).all (own.contains ·) && ckIt T it sc tg iter && (match ownOf T.N own with
      | some ow => blkB T.N sc scope ow
      | none => false) && ckTg T (lkC sc scope) t tg && ckFs T ifs (relS scope sc) fs && ckE T elt (relS scope sc) el
    | _ => false
  | .srtLen m, sc, x => match x with
    | .Call (.Name f _) [a] [⟨some k, .Name y _, _⟩] _ => f == ("sorted" : Str) && k == ("key" : Str) && y == ("len" : Str) && glB sc f && glB sc y && notStar a && ckE T m sc a
    | _ => false
  | .dzip a b, sc, x => match x with
    | .Call (.Name d _) [.Call (.Name f _) [y, z] [⟨some k, .Constant (.bool true) _ _, _⟩] _] [] _ => d == ("dict" : Str) && f == ("zip" : Str) && k == ("strict" : Str) && glB sc d && glB sc f && notStar y && notStar z && ckE T a sc y && ckE T b sc z
    | _ => false
def ckEs (T : Tb) : Es → Scope → List Expr → Bool
  | .nil, sc, xs => xs.isEmpty
  | .cons m r, sc, xs => match xs with
    | x :: y => notStar x && ckE T m sc x && ckEs T r sc y
    | [] => false
def ckKs (T : Tb) : Es → Scope → List Str → List Keyword → Bool
  | .nil, sc, ks, xs => ks.isEmpty && xs.isEmpty
  | .cons m r, sc, ks, xs => match ks, xs with
    | k :: ks, ⟨some y, x, _⟩ :: xs => k == y && ckE T m sc x && ckKs T r sc ks xs
    | _, _ => false
def ckO (T : Tb) : Eo → Scope → Option Expr → Bool
  | .no, sc, o => o.isNone
  | .so m, sc, o => match o with
    | some x => ckE T m sc x
    | none => false
def ckFs (T : Tb) : Eo → Scope → List Expr → Bool
  | .no, sc, xs => xs.isEmpty
  | .so m, sc, xs => match xs with
    | [x] => ckE T m sc x
    | _ => false
def ckIt (T : Tb) : It → Scope → Expr → Expr → Bool
  | .seq m, sc, tg, x => ckE T m sc x
  | .rng a b, sc, tg, x => match x with
    | .Call (.Name f _) [y, z] [] _ => f == ("range" : Str) && glB sc f && notStar y && notStar z && ckE T a sc y && ckE T b sc z
    | _ => false
  | .rng1 b, sc, tg, x => match x with
    | .Call (.Name f _) [z] [] _ => f == ("range" : Str) && glB sc f && notStar z && ckE T b sc z
    | _ => false
  | .enum m, sc, tg, x => match tg, x with
    | .Tuple _ _ _, .Call (.Name f _) [z] [] _ => f == ("enumerate" : Str) && glB sc f && notStar z && ckE T m sc z
    | _, _ => false
  | .zip a b, sc, tg, x => match tg, x with
    | .Tuple _ _ _, .Call (.Name f _) [y, z] [⟨some k, .Constant (.bool true) _ _, _⟩] _ => f == ("zip" : Str) && k == ("strict" : Str) && glB sc f && notStar y && notStar z && ckE T a sc y && ckE T b sc z
    | _, _ => false
end
end Li
set_option Elab.async false
set_option linter.all false
set_option maxRecDepth 100000
set_option maxHeartbeats 2000000
/-! LiFresh: lists just made that are changed afterwards; xs[i] op= e. -/
namespace Li
open PySem L2
def PoF (K : PySem.W.Frag) (hid : Hid) (S : Sto) (H : Hp) (Q : VK) : List Val → Sto → Prop := fun vs S1 => ∀ p xs H1, H p = none → Ext S H S1 H1 → Rel K (hid.add p) S1 H1 → S1 p = none → H1 p = some (.lst xs) →
  Rvs K (Mset S1 (hid.add p)) H1 vs xs → Q (.ref p) H1
def tEf (G : SX) (K : PySem.W.Frag) (e : E) : TE := fun σ' H Q => ∃ σ S hid, Wd G K σ S hid σ' H ∧ evE G.c e σ S fun v S1 => lstQ v fun vs => PoF K hid S H Q vs S1
section
variable {X : Cx} {G : SX} {lvl : Nat} {nm : Nat → Str} {σ : Env} {S : Sto} {hid : Hid} {σ' : L2.St} {H : Hp} {K : PySem.W.Frag}
theorem PoF.new {Q : VK} {vs : List Val} {S1 : Sto} {H1 : Hp} {xs : List V} (z : PoF K hid S H Q vs S1) (e : Ext S H S1 H1) (rel : Rel K hid S1 H1) (r : Rvs K (Mset S1 hid) H1 vs xs) : ∀ q, H1 q = none → Q (.ref q) (upd H1 q (.lst xs)) := fun q hq =>
  z q xs _ (e.free hq) (e.trans (Ext.new S1 hq)) (rel.hide hq) (rel.free hq) upd_same (r.keep (keeps_hid hq))
theorem tEf.mono {e : E} {Q Q' : VK} (hQ : ∀ x H, Q x H → Q' x H) (h : tEf G K e σ' H Q) : tEf G K e σ' H Q' := by
  obtain ⟨σ, S, hid, w, h⟩ := h
  exact ⟨σ, S, hid, w, evE_mono e (fun v S' z => lstQ_mono (fun vs z p xs H1 a b c d e f => hQ _ _ (z p xs H1 a b c d e f)) z) h⟩
theorem sF_lst {es : List Expr} {ms : Es} {pos : Pos} (h : PA X es (tAv G X.K ms)) : PE X (.List es pos) (tEf G X.K (.lst ms)) :=
  PE.wk (pe_lst h) fun σ' H Q ⟨σ, S, hid, w, h⟩ => (tA (a := ms) w h).mono fun xs' H1 ⟨S1, xs, e1, w1, r1, z⟩ =>
    ⟨by rw [← r1.length]; exact z.1, PoF.new (show PoF X.K hid S H Q xs S1 from z.2) e1 w1.rel r1⟩
theorem comp_rdF {melt : E} {t : Tg} {mi : It} {mifs : Eo} {own : List Nat} {Q : VK} (ht : ∀ i, i ∈ tgs t → i ∈ own) (h : tEf G K (.comp melt t mi mifs own) σ' H Q) :
    tLc (iEv G K mi) (gOf K t) (tBo (G.blk σ' own) K mifs) (tEv (G.blk σ' own) K melt) own σ' H Q := by
  obtain ⟨σ, S, hid, w, h⟩ := h
  exact comp_rdG ht w h fun vs S5 D H2 xs hD e rel sD hD2 rv z => (show PoF K hid S H Q vs S5 from z) D xs H2 hD e rel sD hD2 rv
theorem sF_comp (ok : Okx G lvl nm X) {elt tg iter : Expr} {ifs : List Expr} {scope : Scope} {own : List (Str × Nat)} {pos : Pos} {melt : E} {t : Tg} {mi : It} {mifs : Eo} (hi : PI X tg iter (iEv G X.K mi)) (blk : BlkOk X.N X.env.scope scope own) (ht : ∀ i, i ∈ tgs t → i ∈ own.map (·.2))
    (bp : BlkP X G scope (own.map (·.2)) tg ifs elt t mifs melt) (hs : ∀ x, foldedSetIterable iter X.env x = pure x) :
    PE X (.ListComp elt [⟨tg, iter, ifs, 0⟩] scope pos) (tEf G X.K (.comp melt t mi mifs (own.map (·.2)))) :=
  PE.wk (LiC.pe_lcI ok.calm ok.nd hi blk bp.hg bp.ht bp.he hs) fun σ' H Q h => ⟨let ⟨_, _, _, w, _⟩ := h; w.ag, comp_rdF ht h⟩
/-- list(x) -/
theorem sF_list (ok : Okx G lvl nm X) {x : Str} {e : Expr} {es : List Expr} {ms : Es} {p pos : Pos} (hg : Gl X x) (hm : X.mg x = none) (hv : bootBuiltins x = some (.type "list"))
    (ha : PA X (e :: es) (tAv G X.K ms)) (hn : x ≠ "__name__") (hdb : (x == ("__debug__" : Str)) = false) (he : starEach (e :: es) X.env = (false, eval e X.env) :: starEach es X.env) (hpl : (backTo pos (starEach es X.env)).any (·.1) = false) :
    PE X (.Call (.Name x p) (e :: es) [] pos) (tEf G X.K (.bf .list ms)) :=
  PE.wk (pe_callTy call_list_of hg hm hv ha hn hdb he hpl) fun σ' H Q ⟨σ, S, hid, w, h⟩ => (tA (a := ms) w h).mono fun xs' H1 ⟨S1, xs, e1, w1, rv, z⟩ => by
    have h' : bfV G.c.D .list xs S1 (fun v => lstQ v fun vs => PoF X.K hid S H Q vs S1) := z
    unfold bfV at h'
    split at h' <;> first
      | (rename_i hf; cases hf; done)
      | skip
    · rename_i us' hf
      obtain ⟨z, e, rz⟩ := rv.one
      obtain ⟨p, ys, ex, q1, s1⟩ := rz.seqT
      exact ⟨p, ys, by rw [e, ex], .inr q1, PoF.new h' e1 w1.rel s1⟩
    · rename_i ns hf
      obtain ⟨z, e, rz⟩ := rv.one
      obtain ⟨p, ex, q1⟩ := Rv.seqS rz
      exact ⟨p, _, by rw [e, ex], .inl q1, PoF.new h' e1 w1.rel (Rvs.ints ns)⟩
    · rename_i x _ _ hf
      obtain ⟨z, e, rz⟩ := rv.one
      obtain ⟨vs', e0, h'⟩ := optQ_inv h'
      obtain ⟨p, ys, ex, q1, s1⟩ := asL_seq w1.rel e0 rz
      exact ⟨p, ys, by rw [e, ex], .inl (SqL.of q1), PoF.new h' e1 w1.rel s1⟩
    · exact h'.elim
/-- list + list -/
theorem sF_add {a b : Expr} {ma mb : E} {pos : Pos} (ha : PE X a (tEv G X.K ma)) (hb : PE X b (tEv G X.K mb)) : PE X (.BinOp a .Add b pos) (tEf G X.K (.bin .Add ma mb)) :=
  PE.wk (pe_op op_cat ha hb) fun σ' H Q ⟨σ, S, hid, w, h⟩ => (t2 w h).mono fun x' H1 q => q.mono fun y' H2 ⟨S2, x, y, e, w2, r1, r2, z⟩ => by
    have h2 : addV S2 (fun v => lstQ v fun vs => PoF X.K hid S H Q vs S2) x y := z
    unfold addV at h2
    split at h2
    · exact h2.elim
    · exact h2.2.elim
    · exact h2.2.elim
    · obtain ⟨vs, e1, h3⟩ := optQ_inv h2
      obtain ⟨us, e2, h4⟩ := optQ_inv h3
      obtain ⟨p, xs, ex, q1, s1⟩ := asL_seq w2.rel e1 r1
      obtain ⟨p2, xs2, ex2, q2, s2⟩ := asL_seq w2.rel e2 r2
      exact ⟨p, p2, xs, xs2, ex, ex2, q1, q2, by rw [← s1.length, ← s2.length]; exact h4.1, PoF.new h4.2 e w2.rel (s1.append s2)⟩
/-! ### a hidden list becomes a cell -/
theorem mset_cell {p : Addr} {c : Cell} : Keeps (Mset S (hid.add p)) H (Mset (S.set p c) hid) H := ⟨fun q o e _ n => ⟨e, fun z => n (by
  rcases z with z | z
  · by_cases hq : q = p
    · exact .inr (.inr hq)
    · rw [Sto.set_ne hq] at z
      exact .inl z
  · exact .inr (.inl z))⟩⟩
theorem Rel.cellize {p : Addr} {vs : List Val} {xs : List V} (r : Rel K (hid.add p) S H) (nh : ¬ hid p) (h : H p = some (.lst xs)) (rv : Rvs K (Mset S (hid.add p)) H vs xs) : Rel K hid (S.set p (.lst vs)) H where
  cells := fun b d e => by
    by_cases q : b = p
    · rw [q, Sto.set_same] at e
      cases e
      rw [q]
      exact ⟨xs, h, rv.keep mset_cell⟩
    · rw [Sto.set_ne q] at e
      exact (r.cells b d e).keep mset_cell rfl
  hids := fun q hq => r.hids q (.inl hq)
  tabs := r.tabs
  dis := fun q hq => by
    rw [Sto.set_ne fun (z : q = p) => nh (z ▸ hq)]
    exact r.dis q (.inl hq)
theorem Ext.cellize {S0 : Sto} {H0 : Hp} {p : Addr} {c : Cell} (e : Ext S0 H0 S H) (h : H0 p = none) : Ext S0 H0 (S.set p c) H where
  keep := fun q o hq sd k => ⟨(e.keep q o hq sd k).1, by
    rw [Sto.set_ne fun (z : q = p) => by rw [z, h] at hq; cases hq]
    exact (e.keep q o hq sd k).2⟩
  dom := e.dom
theorem dropC_cases (σ : Env) (S : Sto) (i : Nat) : dropC σ S i = S ∨ ∃ a, dropC σ S i = S.del a := by
  unfold dropC
  split
  · split
    · exact .inr ⟨_, rfl⟩
    · exact .inl rfl
  · exact .inl rfl
theorem cell_made {i : Nat} {R : Env → Sto → Prop} {Q : Env → Sto → VK → Prop} {vs : List Val} {S1 : Sto} {H1 : Hp} {p : Addr} {xs : List V} (w : Wd G K σ S hid σ' H) (z : setC i (.lst vs) σ S1 R) (hp : H p = none) (e : Ext S H S1 H1) (rel : Rel K (hid.add p) S1 H1) (sp : S1 p = none) (h1 : H1 p = some (.lst xs))
    (rv : Rvs K (Mset S1 (hid.add p)) H1 vs xs) : ∃ S2, R (σ.set i (some (.adr p))) S2 ∧ Ext S H S2 H1 ∧ Rel K hid S2 H1 ∧ Renv K (Mset S2 hid) H1 (σ.set i (some (.adr p))) (σ'.set i (some (.ref p))) := by
  have z1 : R (σ.set i (some (.adr p))) ((dropC σ S1 i).set p (.lst vs)) := z p sp
  have nh : ¬ hid p := fun q => w.rel.nohid hp q
  have fin : ∀ S1', Rel K (hid.add p) S1' H1 → Ext S H S1' H1 → Rvs K (Mset S1' (hid.add p)) H1 vs xs → Ext S H (S1'.set p (.lst vs)) H1 ∧ Rel K hid (S1'.set p (.lst vs)) H1 ∧ Renv K (Mset (S1'.set p (.lst vs)) hid) H1 (σ.set i (some (.adr p))) (σ'.set i (some (.ref p))) :=
    fun S1' rel' e' rv' => ⟨e'.cellize hp, rel'.cellize nh h1 rv', (w.env.keep ((e'.cellize hp).keeps hid)).set i rfl⟩
  rcases dropC_cases σ S1 i with d | ⟨a, d⟩
  · rw [d] at z1
    exact ⟨_, z1, fin S1 rel e rv⟩
  · rw [d] at z1
    exact ⟨_, z1, fin _ (rel.del a) (e.trans (Ext.del S1 H1 a)) (rv.keep keeps_del)⟩
theorem sS_setc {i : Nat} {x : Str} {e : Expr} {me : E} {pos pos' : Pos} (hN : X.N.Nodup) (hi : X.N[i]? = some x) (hx : Loc X.env.scope x) (he : PE X e (tEf G X.K me)) (hs : swapsWith e (some (.Name x pos')) pos.line X.env = pure false) (hf : X.fn x = true ∨ X.env.scope.names.lookup x = some .local) :
    PS X (.Assign [.Name x pos'] e pos) (tSv G X.K (.setc i me)) :=
  PS.wk (ps_set hN hi hx he hs hf) fun D σ' H ⟨σ, S, hid, w, h⟩ => ⟨σ, S, hid, w, evE_mono me (fun v S1 z => lstQ_mono (fun vs z => z) (by
    obtain ⟨vs, ev, _⟩ := lstQ_inv (show lstQ v fun vs => True by
      have z : setC i v σ S1 (lift X.K hid S H D).nx := z
      unfold setC at z
      exact lstQ_mono (fun _ _ => trivial) z)
    subst ev
    intro p xs H1 hp e rel sp h1 rv
    obtain ⟨S2, q1, q2, q3, q4⟩ := cell_made (Q := fun _ _ _ => True) w z hp e rel sp h1 rv
    exact q1 _ H1 q2 q3 q4)) h⟩
theorem sS_setcLc (ok : Okx G lvl nm X) {i : Nat} {y : Str} {py spos : Pos} {elt tg iter : Expr} {ifs : List Expr} {scope : Scope} {own : List (Str × Nat)} {pos : Pos} {melt : E} {t : Tg} {mi : It} {mifs : Eo} (hy : X.N[i]? = some y) (hyl : X.env.scope.names.lookup y = some .local)
    (hsw : swapsWith (.ListComp elt [⟨tg, iter, ifs, 0⟩] scope pos) (some (.Name y py)) spos.line X.env = pure true) (hi : PI X tg iter (iEv G X.K mi)) (blk : BlkOk X.N X.env.scope scope own) (ht : ∀ i, i ∈ tgs t → i ∈ own.map (·.2))
    (bp : BlkP X G scope (own.map (·.2)) tg ifs elt t mifs melt) (hs : ∀ x, foldedSetIterable iter X.env x = pure x) :
    PS X (.Assign [.Name y py] (.ListComp elt [⟨tg, iter, ifs, 0⟩] scope pos) spos) (tSv G X.K (.setc i (.comp melt t mi mifs (own.map (·.2))))) :=
  PS.wk (LiC.ps_lcI ok.calm ok.nd hy hyl hsw hi blk bp.hg bp.ht bp.he hs) fun D σ' H ⟨σ, S, hid, w, h⟩ => ⟨w.ag, comp_rdG (R := fun v S1 => setC i v σ S1 (lift X.K hid S H D).nx) ht w h fun vs S5 Dd H2 xs hD e rel sD hD2 rv z => by
    obtain ⟨S2, q1, q2, q3, q4⟩ := cell_made (Q := fun _ _ _ => True) w z hD e rel sD hD2 rv
    exact q1 _ H2 q2 q3 q4⟩
theorem sS_retc {e : Expr} {me : E} {pos : Pos} (he : PE X e (tEf G X.K me)) : PS X (.Return (some e) pos) (tSv G X.K (.retc me)) :=
  PS.wk (ps_ret he) fun D σ' H ⟨σ, S, hid, w, h⟩ => ⟨σ, S, hid, w, evE_mono me (fun v S1 z => lstQ_mono (fun vs z => by
    intro p xs H1 hp e rel sp h1 rv
    exact z p sp (.ref p) H1 (e.cellize hp) (rel.cellize (fun q => w.rel.nohid hp q) h1 rv) rfl) z) h⟩
/-! ### xs[i] op= e -/
def rGetL (K : PySem.W.Frag) : R2 := fun x y H Q => ∃ p xs i v, x = .ref p ∧ y = .int i ∧ H p = some (.lst xs) ∧ atI xs i = some v ∧ Q v H
theorem get_list : PGet X (rGetL X.K) := by
  intro pins s σ H x y v u Q I rx ry h
  obtain ⟨p, xs, i, z, rfl, rfl, hq, he, q⟩ := h
  cases rx
  obtain ⟨t, rfl⟩ := ry
  obtain ⟨its, r, pl, hz⟩ := I.list (SqL.of hq)
  obtain ⟨j, h1, h2, h3, h4, h5⟩ := L2.atI_get he
  obtain ⟨w, ew, rw'⟩ := r.get h2
  have hl := r.length
  have hn := line63
  have fin : EP X pins σ Q w s := ⟨z, H, I, rw', q⟩
  by_cases h0 : 0 ≤ i
  · have hj : i.toNat = j := by
      rw [seqIndex_of h0 h5] at h1
      exact Option.some.inj h1
    exact wpAny_getItem_list pl.isList h0 (by omega) (by rw [hj]; simpa using ew) fin
  · have hj : (i + (its.toArray.size : Int)).toNat = j := by
      rw [seqIndex_neg (by omega) h4] at h1
      rw [List.size_toArray, ← hl]
      exact Option.some.inj h1
    exact wpAny_getItem_list_neg pl.isList (by omega) (by rw [List.size_toArray] <;> omega) (by omega) (by rw [hj]; simpa using ew) fin
theorem sS_asub {a i e : Expr} {ma mi me : E} {op : Operator} {pos tp : Pos} (ha : PE X a (tEv G X.K ma)) (hi : PE X i (tEv G X.K mi)) (he : PE X e (tEv G X.K me))
    (hs : ∀ ov iv new, augStore i ov iv new = (do holding [new, ov, iv] (setItem ov iv new); release [new, ov, iv] []; pure .next)) : PS X (.AugAssign (.Subscript a i tp) op e pos) (tSv G X.K (.asub ma mi op me)) :=
  PS.wk (ps_augS ha hi get_list he (op_aug op) set_list hs) fun D σ' H ⟨σ, S, hid, w, h⟩ => (t2 (a := ma) (b := mi) w h).mono fun x' H2 q => q.mono fun y' H3 ⟨S3, x, y, e3, w3, rx, ry, z⟩ => by
    obtain ⟨p, ep, z1⟩ := adrQ_inv z
    obtain ⟨k, ek, z2⟩ := intQ_inv z1
    obtain ⟨vs, hS, z3⟩ := celQ_inv z2
    obtain ⟨j, ej, z4⟩ := optQ_inv z3
    obtain ⟨old, eo, z5⟩ := optQ_inv z4
    subst ep ek
    obtain ⟨xs, h1, s1⟩ := w3.rel.cells p _ hS
    obtain ⟨old', eo', ro⟩ := s1.get eo
    cases (show x' = V.ref p from rx)
    cases (show y' = V.int k from ry)
    refine ⟨p, xs, k, old', rfl, rfl, h1, by unfold atI; rw [← s1.length, ej]; exact eo', (t1 (a := me) w3 z5).mono fun u' H4 ⟨S4, u, e4, w4, ru, z6⟩ => ?_⟩
    refine ⟨S4, hid, old, u, w4.rel, ro.keep (e4.keeps hid), ru, augV_mono (fun v z7 v' H5 e5 rel5 rv => ?_) z6⟩
    obtain ⟨vs3, hS3, z8⟩ := celQ_inv z7
    obtain ⟨xs3, h3, s3⟩ := rel5.cells p _ hS3
    refine ⟨p, xs3, k, j, rfl, rfl, h3, by rw [← s3.length, z8.1]; exact ej, ?_⟩
    have kp : Keeps (Mset S4 hid) H5 (Mset (S4.set p (.lst (vs3.set j v))) hid) (upd H5 p (.lst (xs3.set j v'))) := keeps_put hS3
    exact z8.2 σ' _ ((e3.trans e4).trans (e5.trans (Ext.put hS3))) (rel5.put hS3 ⟨_, upd_same, (s3.keep kp).set (rv.keep kp) j⟩) ((w4.env.keep (e5.keeps hid)).keep kp)
end
end Li
set_option Elab.async false
set_option linter.all false
set_option maxRecDepth 100000
set_option maxHeartbeats 2000000
/-! LiNest: a def within a def: its making, its calls. -/
namespace Li
open PySem L2 NdefX
def toSpN (K : PySem.W.Frag) (T : List NTab) (lf : LF) : List (Option V) → Sp := fun ws vs' H Q E => ∃ vs cs S hid cs', hid.T = T ∧ vs.length = lf.n ∧ ws = cs'.map some ∧ Rvs K (Mset S hid) H vs vs' ∧ Rvs K (Mset S hid) H cs cs' ∧ Rel K hid S H ∧
  lf.sp.run (vs ++ cs) S (PoE K hid S H Q) fun ex S' => ∀ cls d H', Ext S H S' H' → Rel K hid S' H' → RExc K (Mset S' hid) H' ex cls d → E cls d H'
/-- the function F keeps lf's promise, and its captured cells hold what the frame's names hold -/
structure LOk (X : Cx) (G : SX) (lvl : Nat) (lf : LF) (F : NF) : Prop where
  ex : ∃ ps fr k, ps.length = lf.n ∧ k ≤ lvl ∧ (∀ f, NOk X.prog X.w X.K X.mg X.base (CX X.prog X.w) k f F ps fr (toSpN X.K G.T lf)) ∧ ∀ pins σ H s, L2.Inv X pins σ H s → G.ag σ → CellsAt F.cl fr (lf.cap.map (slotAt σ)) s.heap H ∧ ∀ y c, F.cl.lookup y = some c → c ∉ frs X.stack
section
variable {X : Cx} {G : SX} {lvl : Nat} {nm : Nat → Str} {σ : Env} {S : Sto} {hid : Hid} {σ' : L2.St} {H : Hp} {K : PySem.W.Frag}
theorem cloQ_inv {i : Nat} {Q : NF → Prop} (h : cloQ σ i Q) : ∃ f F, σ[i]? = some (some (.clo f F)) ∧ Q F := by
  unfold cloQ at h
  split at h
  · exact ⟨_, _, by assumption, h⟩
  · exact h.elim
theorem capQ_rd {M : Addr → Prop} (e : Renv K M H σ σ') : ∀ {is : List Nat} {Q : List Val → Prop}, capQ σ is Q → ∃ cs cs', Q cs ∧ is.map (slotAt σ') = cs'.map some ∧ Rvs K M H cs cs'
  | [], Q, h => ⟨[], [], h, rfl, rfl⟩
  | i :: r, Q, h => by
    obtain ⟨v, ev, h⟩ := slotQ_inv h
    obtain ⟨x, ex, rx⟩ := e.2 i v ev
    obtain ⟨cs, cs', q1, q2, q3⟩ := capQ_rd e h
    exact ⟨v :: cs, x :: cs', q1, by rw [List.map_cons, List.map_cons, q2, slotAt_of ex], x, cs', rfl, rx, q3⟩
theorem calln_rd {lf : LF} {xs : List Val} {xs' : List V} {S1 : Sto} {H1 : Hp} {Q : VK} {ms : List Nat} (w1 : Wd G K σ S1 hid σ' H1) (e1 : Ext S H S1 H1) (r : Rvs K (Mset S1 hid) H1 xs xs')
    (z : xs.length = lf.n ∧ capQ σ lf.cap fun cs => lf.sp.run (xs ++ cs) S1 (PoE K hid S H Q) G.c.er) : toSpN K G.T lf (lf.cap.map (slotAt σ')) xs' H1 Q (G.EX K) := by
  obtain ⟨z1, z2⟩ := z
  obtain ⟨cs, cs', q1, q2, q3⟩ := capQ_rd w1.env z2
  exact ⟨xs, cs, S1, hid, cs', w1.hT, z1, q2, r, q3, w1.rel, lf.sp.mono (fun v S' z => z.after e1) (fun ex S' her cls d H' e' rel' rx => ⟨ex, S', hid, w1.p, w1.ex.trans e', rel', rx, her⟩) q1⟩
theorem sE_calln (ok : Okx G lvl nm X) {j i : Nat} (lok : ∀ F, (G.c.L j).ok F → LOk X G lvl (G.c.L j) F) {x : Str} {p pos : Pos} {e : Expr} {es : List Expr} {ms : Es} (hN : X.N[i]? = some x) (hv : Vis X.env.scope x) (hd : (x == ("__debug__" : Str)) = false) (hcd : (x == ("__classdict__" : Str)) = false)
    (ha : PA X (e :: es) (tAv G X.K ms)) (he : starEach (e :: es) X.env = (false, eval e X.env) :: starEach es X.env) (hpl : (backTo pos (starEach es X.env)).any (·.1) = false) : PE X (.Call (.Name x p) (e :: es) [] pos) (tEv G X.K (.calln j i ms)) := by
  refine ⟨fun pins s σ' H Q I ⟨σ, S, hid, w, hc, h⟩ => ?_⟩
  obtain ⟨f, F, ef, okF⟩ := cloQ_inv hc
  obtain ⟨y, ey, ry⟩ := w.env.2 i _ ef
  obtain ⟨exy, hf, _⟩ := id ry
  subst exy
  obtain ⟨ps, fr, k, hl, hk, Fn, hcell⟩ := (lok F okF).ex
  refine wpAny_Call_Name_kw (thn ((pe_var (pos := p) hN hv hd hcd).run pins s σ' H (fun v H1 => v = .ref f ∧ H1 = H) I ⟨.ref f, ey, rfl, rfl⟩) fun u s1 ⟨v, H1, I1, r1, ev, eH⟩ => ?_)
  subst ev eH
  cases r1
  refine PySem.W.callWith_F (first := []) (fnAt_of I1 hf) (thn (ha.run pos pins s1 σ' _ _ I1 (tA (a := ms) w h)) fun us s2 ⟨xs', H2, I2, r, S2, xs, e2, w2, rx, z⟩ => ?_) he hpl
  obtain ⟨y2, ey2, ry2⟩ := w2.env.2 i _ ef
  rw [ey] at ey2
  cases ey2
  obtain ⟨_, hf2, _, hc2, _⟩ := ry2
  exact ⟨fnAt_of I2 hf2, run_n (mk := fun _ => F) (c' := F.c) (sp := fun _ _ => toSpN X.K G.T (G.c.L j)) (Fn f) ok.room hk ok.pas I2 hf2 hc2 (hcell _ _ _ _ I2 w2.ag).1 r (calln_rd (ms := []) w2 e2 rx z)⟩
/-- the making of such a function -/
theorem sS_ndef [AgT G] {T : List NTab} {tn : Nat → Nat → Str} {c P : Addr} {name : Str} {params : Arguments} {body : List Stmt} {scope : Scope} {pos : Pos} {i j : Nat} (TB : LamX.TabB X.base X.mg c P) (hcode : X.env.code = .ref c) (hm : (P, tn) ∈ T) (hn : tn pos.line pos.col = X.env.qual ++ name) (hu : ∀ p ∈ T, p.1 = P → p.2 = tn)
    (hfree : ∀ y ∈ scope.names, y.2 = .free → X.env.scope.names.lookup y.1 = some .cell ∨ X.env.scope.names.lookup y.1 = some .free) (hd0 : params.defaults = []) (hk0 : params.kw_defaults = []) (ha : annTrees params none X.env = [])
    (hN : X.N.Nodup) (hi : X.N[i]? = some name) (hx : Loc X.env.scope name) (hf : X.fn name = true ∨ X.env.scope.names.lookup name = some .local) (hT : G.T = T)
    (hok : ∀ c', (G.c.L j).ok ⟨name, X.env.qual ++ name, params, body, scope, cloFrom X.env.cells scope.names [], c'⟩) : PS X (.FunctionDef name params body [] none [] scope none name pos) (tSv G X.K (.ndef i j)) :=
  PS.wk (ps_ndefM TB hcode hm hn hu hfree hd0 hk0 ha hN hi hx hf) fun D σ' H ⟨σ, S, hid, w, h⟩ => by
    have eT := w.hT.trans hT
    refine ⟨by rw [← eT]; exact w.rel.tabs, fun f c' H1 eN nn T1 f0 f1 c1 => ?_⟩
    have ext : Ext S H S H1 := ⟨fun p o hp sd k => ⟨eN p o hp sd, k⟩, fun p hp z => hp (nn p z)⟩
    have same : ∀ a cc, S a = some cc → H1 a = H a := fun a cc ha => by
      have q := w.rel.cells a cc ha
      cases cc with
      | lst vs =>
        obtain ⟨xs, e, _⟩ := q
        rw [e, eN a _ e so_lst]
      | obj C fs =>
        obtain ⟨dx, xs, e, _⟩ := q
        rw [e, eN a _ e so_ins]
      | dK kvs =>
        obtain ⟨xs, e, _⟩ := q
        rw [e, eN a _ e so_dK]
    have notCode : ∀ a cc, S a = some cc → H1 a ≠ some (LamX.CodeO c' (X.env.qual ++ name)) := fun a cc ha z => by
      rw [same a cc ha] at z
      have q := w.rel.cells a cc ha
      unfold LamX.CodeO at z
      cases cc with
      | lst vs =>
        obtain ⟨xs, e, _⟩ := q
        rw [e] at z
        cases z
      | obj C fs =>
        obtain ⟨dx, xs, e, _⟩ := q
        rw [e] at z
        cases z
      | dK kvs =>
        obtain ⟨xs, e, _⟩ := q
        rw [e] at z
        cases z
    have rel1 : Rel X.K hid S H1 := ⟨fun a cc ha => (w.rel.cells a cc ha).keep (ext.keeps hid) (same a cc ha), fun p hp => by
      obtain ⟨xs, e⟩ := w.rel.hids p hp
      exact ⟨xs, eN p _ e so_lst⟩, w.rel.dis, by rw [eT]; exact T1⟩
    refine h f _ (hok c') (w.rel.free f0) _ H1 ext rel1 ((w.env.keep (ext.keeps hid)).set i ⟨rfl, f1, fun z => z.elim (fun q => q (w.rel.free f0)) fun q => w.rel.nohid f0 q, c1, fun z => ?_⟩)
    rcases z with z | z
    · cases q : S c' with
      | none => exact z q
      | some cc => exact notCode c' cc q c1
    · obtain ⟨xs, e⟩ := w.rel.hids c' z
      have z2 := eN c' _ e so_lst
      have c1 : H1 c' = some (LamX.CodeO c' (X.env.qual ++ name)) := c1
      rw [z2] at c1
      unfold LamX.CodeO at c1
      cases c1
theorem slot_congr {σ1 σ2 : L2.St} : ∀ {is : List Nat}, (∀ j ∈ is, σ1[j]? = σ2[j]?) → is.map (slotAt σ1) = is.map (slotAt σ2)
  | [], _ => rfl
  | i :: r, h => by
    rw [List.map_cons, List.map_cons, slot_congr (is := r) fun j hj => h j (List.mem_cons_of_mem _ hj)]
    unfold NdefX.slotAt
    rw [h i List.mem_cons_self]
/-- in a comprehension's block the captured cells hold what they held -/
theorem lok_blk {lf : LF} {F : NF} {own : List Nat} {pn : List (Addr × Obj)} {σb : L2.St} {H : Hp} {s : Shared} (l : LOk X G lvl lf F) (ho : ∀ j ∈ lf.cap, j ∉ own) (I : L2.Inv X pn σb H s) (hag : G.ag σb) (scope : Scope) (C : Addr) (cl : List (Str × Addr)) (fp : List Addr) (nc : LiC.NoCell s fp) :
    LOk (LiC.blkAt X s H scope C cl fp) (G.blk σb own) lvl lf F := by
  obtain ⟨ps, fr, k, h1, h2, h3, h4⟩ := l.ex
  obtain ⟨c0, nf⟩ := h4 pn σb H s I hag
  refine ⟨ps, fr, k, h1, h2, h3, fun pins σ1 H1 s1 I1 ag1 => ⟨?_, nf⟩⟩
  rw [slot_congr (σ2 := σb) fun j hj => ag1 j (ho j hj)]
  refine CellsAt.later (X := LiC.blkAt X s H scope C cl fp) c0 nf (fun y c e z => ?_) I1
  obtain ⟨o, q1, q2⟩ := nc c z
  obtain ⟨_, v, o', q3, q4⟩ := c0.all y c e
  rw [q1] at q3
  cases q3
  exact q2 _ q4
/-- in the def that makes it -/
theorem lok_def {lf : LF} {scope : Scope} {name qual : Str} {params : Arguments} {body : List Stmt} {c' : Addr} {ps fr : List Str} {k : Nat} (hps : ps.length = lf.n) (hk : k ≤ lvl) (hfn : ∀ x, X.fn x = true)
    (hfree : ∀ y ∈ scope.names, y.2 = .free → X.env.scope.names.lookup y.1 = some .cell ∨ X.env.scope.names.lookup y.1 = some .free) (hfr : ∀ y ∈ fr, (y, NameKind.free) ∈ scope.names) (hjs : lf.cap.map (fun j => X.N[j]?) = fr.map some)
    (Fn : ∀ f, NOk X.prog X.w X.K X.mg X.base (CX X.prog X.w) k f ⟨name, qual, params, body, scope, cloFrom X.env.cells scope.names [], c'⟩ ps fr (toSpN X.K G.T lf)) : LOk X G lvl lf ⟨name, qual, params, body, scope, cloFrom X.env.cells scope.names [], c'⟩ := by
  refine ⟨ps, fr, k, hps, hk, Fn, fun pins σ H s I _ => ?_⟩
  have cp : Caps X (cloFrom X.env.cells scope.names []) fr lf.cap := Caps.made I.ok hfree hfr hjs
  refine ⟨cells_of I cp, fun y c e z => ?_⟩
  have ec := cp.sub y c e
  rcases List.mem_cons.mp (I.stkSub c z) with q | q
  · exact I.cne y c ec q
  · obtain ⟨_, o, ho, _⟩ := I.ok.funs.mem q
    exact absurd (Nat.lt_of_lt_of_le (Heap.lt_size ho) (I.ok.cab y c (hfn y) ec)) (Nat.lt_irrefl _)
end
end Li
set_option Elab.async false
set_option linter.all false
set_option maxRecDepth 100000
set_option maxHeartbeats 4000000
/-! LiSound: what LiChk checks holds. -/
namespace Li
open PySem L2
structure SOk (T : Tb) (G : SX) (lvl : Nat) (X : Cx) (sc : Scope) : Prop where
  ok : Okx G lvl T.nm X
  sc : X.env.scope = sc
  N : X.N = T.N
  bl : ∀ x, bnames.contains x = true → X.mg x = none
  lok : ∀ j F, (G.c.L j).ok F → LOk X G lvl (G.c.L j) F
  lcap : ∀ j i, i ∈ (G.c.L j).cap → T.cap.contains i = true
section
variable {T : Tb} {G : SX} {lvl : Nat} {X : Cx} {sc : Scope}
theorem and2 {a b : Bool} (h : (a && b) = true) : a = true ∧ b = true := by
  cases a <;> cases b <;> first
    | exact ⟨rfl, rfl⟩
    | cases h
theorem eqS {α : Type} [BEq α] [LawfulBEq α] {a b : α} (h : (a == b) = true) : a = b := eq_of_beq h
theorem visB_ok {x : Str} (h : visB sc x = true) : Vis sc x := by
  unfold visB at h
  split at h
  · exact .inl (by assumption)
  · exact .inr (.inl (by assumption))
  · exact .inr (.inr (by assumption))
  · cases h
theorem locB_ok {x : Str} (h : locB sc x = true) : Loc sc x := by
  unfold locB at h
  split at h
  · exact .inl (by assumption)
  · exact .inr (by assumption)
  · cases h
theorem SOk.vis (so : SOk T G lvl X sc) {x : Str} (h : visB sc x = true) : Vis X.env.scope x := by
  rw [so.sc]
  exact visB_ok h
theorem SOk.gl (so : SOk T G lvl X sc) {x : Str} (h : glB sc x = true) : Gl X x := by
  show X.env.scope.names.lookup x = _
  rw [so.sc]
  exact eqS h
theorem SOk.ix (so : SOk T G lvl X sc) {x : Str} {i : Nat} (h : (T.N[i]? == some x) = true) : X.N[i]? = some x := by
  rw [so.N]
  exact eqS h
theorem nameB_ok {x : Str} (h : nameB x = true) : (x == ("__debug__" : Str)) = false ∧ (x == ("__classdict__" : Str)) = false := by
  obtain ⟨h1, h2⟩ := and2 h
  exact ⟨eqS h1, eqS h2⟩
theorem star_ok {e : Expr} {es : List Expr} {env : PySem.Env} (h : notStar e = true) : starEach (e :: es) env = (false, eval e env) :: starEach es env := by
  cases e <;> first
    | rfl
    | exact (Bool.false_ne_true h).elim
theorem base_ok {e : Expr} {f : Str} {env : PySem.Env} (h : baseB e = true) : attributeBase e f env (eval e env) = eval e env := by
  unfold attributeBase
  split
  · rename_i id p pos
    have h : (id != "super") = true := h
    rw [h]
    rfl
  · rfl
theorem set_mark {op : CmpOp} {e : Expr} (h : notSet e = true) : behindInMarks op e = false := by
  cases e <;> first
    | rfl
    | exact (Bool.false_ne_true h).elim
theorem set_iter {e : Expr} {env : PySem.Env} (h : notSet e = true) : ∀ x, foldedSetIterable e env x = pure x := by
  intro x
  cases e <;> first
    | rfl
    | exact (Bool.false_ne_true h).elim
theorem slice_ok {e : Expr} (h : notSlice e = true) : PlainIx e := by
  intro o i
  cases e <;> first
    | rfl
    | exact (Bool.false_ne_true h).elim
theorem true_ok {e : Expr} {env : PySem.Env} (h : tyB e = true) : ∀ whole, isTrue e env whole = (do let v ← whole; standAt e.pos; holding [v] (truthy v)) := by
  intro w
  cases e <;> first
    | rfl
    | exact (Bool.false_ne_true h).elim
theorem plain_any {es : List Expr} {env : PySem.Env} {pos : Pos} (h : es.all notStar = true) : (backTo pos (starEach es env)).any (·.1) = false := by
  induction es with
  | nil => rfl
  | cons e es ih =>
    obtain ⟨h1, h2⟩ := and2 (show (notStar e && es.all notStar) = true from h)
    rw [star_ok h1]
    show (false || (backTo pos (starEach es env)).any (·.1)) = false
    rw [ih h2]
    rfl
theorem plain_all {es : List Expr} {env : PySem.Env} {pos : Pos} (h : es.all notStar = true) : (backTo pos (starEach es env)).all (fun x => !x.1) = true := by
  induction es with
  | nil => rfl
  | cons e es ih =>
    obtain ⟨h1, h2⟩ := and2 (show (notStar e && es.all notStar) = true from h)
    rw [star_ok h1]
    show (true && (backTo pos (starEach es env)).all (fun x => !x.1)) = true
    rw [ih h2]
    rfl
theorem ckEs_star : ∀ {m : Es} {xs : List Expr}, ckEs T m sc xs = true → xs.all notStar = true
  | .nil, [], _ => rfl
  | .nil, _ :: _, h => (Bool.false_ne_true h).elim
  | .cons m r, [], h => (Bool.false_ne_true h).elim
  | .cons m r, x :: y, h => by
    obtain ⟨h1, h2⟩ := and2 (show (notStar x && ckE T m sc x && ckEs T r sc y) = true from h)
    obtain ⟨h1, h3⟩ := and2 h1
    show (notStar x && y.all notStar) = true
    rw [h1, ckEs_star h2]
    rfl
abbrev R3 (G : SX) (X : Cx) (e : Expr) (m : E) : Prop := PE X e (tEv G X.K m) ∧ PT X e (tTv G X.K m) ∧ ∀ op vs p, e = .BoolOp op vs p → PW X e (tTv G X.K m)
theorem plain3 {e : Expr} {m : E} (he : PE X e (tEv G X.K m)) (h : tyB e = true) : R3 G X e m := ⟨he, sT_val he (true_ok h), fun op vs p z => by
  subst z
  exact (Bool.false_ne_true h).elim⟩
theorem PE.not {e : Expr} {t : TE} (h : ∀ σ H Q, ¬ t σ H Q) : PE X e t := ⟨fun _ _ _ _ _ _ q => (h _ _ _ q).elim⟩
theorem cal_no {g : Li.G} (h : ∀ sp n dfl, g ≠ .fn sp n dfl) (h2 : ∀ C fz sp n dfl, g ≠ .cls C fz sp n dfl) : ¬ isCal g := by
  cases g with
  | fn sp n dfl => exact absurd rfl (h sp n dfl)
  | cls C fz sp n dfl => exact absurd rfl (h2 C fz sp n dfl)
  | _ => exact fun z => z
theorem bln (so : SOk T G lvl X sc) {x : Str} {y : Str} (h : (x == y) = true) (hy : bnames.contains y = true) : X.mg x = none := by
  rw [eqS h]
  exact so.bl y hy
theorem pe_one {op : BoolOp} {y : Expr} {p : Pos} {t : TE} (h : PE X y t) : PE X (.BoolOp op [y] p) t := ⟨h.run⟩
theorem ownOf_ok {N : List Str} : ∀ {own : List Nat} {l : List (Str × Nat)}, ownOf N own = some l → (∀ p ∈ l, N[p.2]? = some p.1) ∧ l.map (·.2) = own
  | [], l, h => by
    cases h
    exact ⟨fun p hp => (nomatch hp), rfl⟩
  | i :: r, l, h => by
    unfold ownOf at h
    split at h
    · rename_i x l' h1 h2
      cases h
      obtain ⟨q1, q2⟩ := ownOf_ok h2
      refine ⟨fun p hp => ?_, by rw [List.map_cons, q2]⟩
      rcases List.mem_cons.mp hp with e | e
      · rw [e]
        exact h1
      · exact q1 p e
    · cases h
theorem blkB_ok {N : List Str} {scope : Scope} {own : List (Str × Nat)} (hi : ∀ p ∈ own, N[p.2]? = some p.1) (h : blkB N sc scope own = true) : BlkOk N sc scope own := by
  obtain ⟨h, h4⟩ := and2 h
  obtain ⟨h, h3⟩ := and2 h
  obtain ⟨h1, h2⟩ := and2 h
  refine ⟨eqS h1, fun y hy => ?_, hi, fun y hy e => ?_, fun y hy e => ?_⟩
  · exact eqS (List.all_eq_true.mp h2 y hy)
  · have q := List.all_eq_true.mp h3 y hy
    rw [e] at q
    rcases (Bool.or_eq_true _ _).mp q with q | q
    · exact (Bool.false_ne_true q).elim
    · rcases (Bool.or_eq_true _ _).mp q with q | q
      · exact .inl (eqS q)
      · exact .inr (eqS q)
  · have q := List.all_eq_true.mp h4 y hy
    rcases (Bool.or_eq_true _ _).mp q with q | q
    · exfalso
      rcases e with e | e
      · rw [e] at q
        exact (Bool.false_ne_true q)
      · rw [e] at q
        exact (Bool.false_ne_true q)
    · rcases (Bool.or_eq_true _ _).mp q with q | q
      · exact .inl (by simpa using q)
      · exact .inr (by simpa using q)
theorem SOk.blk (so : SOk T G lvl X sc) {pn : List (Addr × Obj)} {σb : L2.St} {own : List Nat} (ho : own.all (fun i => !(T.cap.contains i)) = true) {s : Shared} {H : Hp} (I : L2.Inv X pn σb H s) (hag : G.ag σb) (scope : Scope) (cl : List (Str × Addr)) (C : Addr) (fp : List Addr) (nc : LiC.NoCell s fp) : SOk T (G.blk σb own) lvl (LiC.blkAt X s H scope C cl fp) (relS scope sc) where
  ok := okx_blk so.ok σb own s H scope _ fp
  sc := by
    rw [← so.sc]
    rfl
  N := so.N
  bl := so.bl
  lok := fun j F hF => lok_blk (so.lok j F hF) (fun i hi z => by
    have q := List.all_eq_true.mp ho i z
    rw [so.lcap j i hi] at q
    exact Bool.false_ne_true q) I hag scope C cl fp nc
  lcap := so.lcap
theorem PE.ofK {e : Expr} {t t' : TE} (h : PE X e t) (q : t = t') : PE X e t' := q ▸ h
theorem ckT1_ok {lk : Str → Bool} {i : Nat} {e : Expr} (hN : X.N = T.N) (nd : X.N.Nodup) (hl : ∀ x, lk x = true → Loc X.env.scope x ∧ (X.fn x = true ∨ X.env.scope.names.lookup x = some .local)) (h : ckT1 T lk i e = true) : PG X e (gName i) := by
  cases e with
  | Name x p =>
    obtain ⟨h1, h2⟩ := and2 (show (T.N[i]? == some x && lk x) = true from h)
    obtain ⟨q1, q2⟩ := hl x h2
    exact pg_name nd (by rw [hN]; exact eqS h1) q1 q2
  | _ => exact (Bool.false_ne_true h).elim
theorem each_one {e : Expr} {es : List Expr} {env : PySem.Env} {T : Tb} {lk : Str → Bool} {i : Nat} (h : ckT1 T lk i e = true) : assignEach (e :: es) env = (false, assign e env) :: assignEach es env := by
  cases e with
  | Name x p => rfl
  | _ => exact (Bool.false_ne_true h).elim
theorem ckTs_each {lk : Str → Bool} {env : PySem.Env} : ∀ {is : List Nat} {es : List Expr}, ckTs T lk is es = true → (assignEach es env).length = is.length ∧ (assignEach es env).findIdx? (·.1) = none
  | [], [], _ => ⟨rfl, rfl⟩
  | [], _ :: _, h => (Bool.false_ne_true h).elim
  | _ :: _, [], h => (Bool.false_ne_true h).elim
  | i :: is, e :: es, h => by
    obtain ⟨h1, h2⟩ := and2 (show (ckT1 T lk i e && ckTs T lk is es) = true from h)
    obtain ⟨q1, q2⟩ := ckTs_each (env := env) h2
    rw [each_one h1]
    exact ⟨by rw [List.length_cons, List.length_cons, q1], by simpa [List.findIdx?_cons] using q2⟩
theorem ckTs_ok {lk : Str → Bool} (hN : X.N = T.N) (nd : X.N.Nodup) (hl : ∀ x, lk x = true → Loc X.env.scope x ∧ (X.fn x = true ∨ X.env.scope.names.lookup x = some .local)) : ∀ {is : List Nat} {es : List Expr}, ckTs T lk is es = true → PGs X es (gsOf is)
  | [], [], _ => pgs_nil
  | [], _ :: _, h => (Bool.false_ne_true h).elim
  | _ :: _, [], h => (Bool.false_ne_true h).elim
  | i :: is, e :: es, h => by
    obtain ⟨h1, h2⟩ := and2 (show (ckT1 T lk i e && ckTs T lk is es) = true from h)
    exact pgs_cons (ckT1_ok hN nd hl h1) (ckTs_ok hN nd hl h2) (by rw [each_one h1]; rfl)
theorem ckTg_ok {lk : Str → Bool} {t : Tg} {e : Expr} (hc : X.calm = true) (hN : X.N = T.N) (nd : X.N.Nodup) (hl : ∀ x, lk x = true → Loc X.env.scope x ∧ (X.fn x = true ∨ X.env.scope.names.lookup x = some .local)) (h : ckTg T lk t e = true) : PG X e (gOf X.K t) := by
  cases t with
  | one i => exact ckT1_ok hN nd hl h
  | many is =>
    cases e with
    | Tuple es k p =>
      have h : ckTs T lk is es = true := h
      obtain ⟨q1, q2⟩ := ckTs_each (env := X.env) h
      exact pg_tup hc (ckTs_ok hN nd hl h) q1 q2
    | _ => exact (Bool.false_ne_true h).elim
end
end Li
set_option Elab.async false
set_option linter.all false
set_option maxRecDepth 100000
set_option maxHeartbeats 4000000
/-! LiSndE: what LiChk checks of an expression holds. -/
namespace Li
open PySem L2
section
variable {T : Tb}
theorem pt_ifE {X : Cx} {G : SX} {c a b : Expr} {mc ma mb : E} {pos : Pos} (hc : PT X c (tTv G X.K mc)) (ha : PT X a (tTv G X.K ma)) (hb : PT X b (tTv G X.K mb)) : PT X (.IfExp c a b pos) (tTv G X.K (.ife mc ma mb)) := by
  refine ⟨fun pins s σ' H Q I ⟨σ, S, hid, w, h⟩ => ?_⟩
  rw [arm_isTrue_IfExp]
  have h1 := (tT (a := mc) (R := fun k S1 => brV (some k) (evE G.c ma σ S1 (tst (PoB X.K hid S H Q))) (evE G.c mb σ S1 (tst (PoB X.K hid S H Q)))) w (evE_mono mc (fun v S1 z => by
      rcases brV_inv z with ⟨eb, z⟩ | ⟨eb, z⟩
      · unfold tst
        rw [eb]
        exact z
      · unfold tst
        rw [eb]
        exact z) h))
  refine wpAny_bind (thn (hc.run pins s σ' H _ I h1) fun k s1 ⟨H1, I1, S1, e, w1, z⟩ => ?_)
  cases k with
  | true => exact ha.run pins s1 σ' H1 Q I1 ⟨σ, S1, hid, w1, evE_mono ma (fun v S' z => tst_mono (fun b S'' z => z.after e) z) z⟩
  | false => exact hb.run pins s1 σ' H1 Q I1 ⟨σ, S1, hid, w1, evE_mono mb (fun v S' z => tst_mono (fun b S'' z => z.after e) z) z⟩
mutual
theorem okE : ∀ (m : E) {G : SX} {lvl : Nat} {X : Cx} {sc : Scope} {e : Expr}, SOk T G lvl X sc → ckE T m sc e = true → R3 G X e m
  | .var i, G, lvl, X, sc, e, so, h => by
    cases e with
    | Name x p =>
      obtain ⟨h, h3⟩ := and2 (show (T.N[i]? == some x && visB sc x && nameB x) = true from h)
      obtain ⟨h1, h2⟩ := and2 h
      obtain ⟨n1, n2⟩ := nameB_ok h3
      exact plain3 (sE_var (so.ix h1) (so.vis h2) n1 n2) rfl
    | _ => exact (Bool.false_ne_true h).elim
  | .lit v, G, lvl, X, sc, e, so, h => by
    cases e with
    | Constant c k p =>
      have h : litB v c = true := h
      unfold litB at h
      split at h
      · cases eqS h
        exact plain3 sE_int rfl
      · cases eqS h
        exact plain3 sE_str rfl
      · cases eqS h
        exact plain3 sE_bl rfl
      · exact plain3 sE_non rfl
      · cases h
    | _ => exact (Bool.false_ne_true h).elim
  | .glob g, G, lvl, X, sc, e, so, h => by
    cases e with
    | Name x p =>
      obtain ⟨h, h3⟩ := and2 (show (x == T.nm g && glB sc x && nameB x) = true from h)
      obtain ⟨h1, h2⟩ := and2 h
      obtain ⟨n1, n2⟩ := nameB_ok h3
      cases eqS h1
      exact plain3 (sE_glob so.ok (so.gl h2) n1) rfl
    | _ => exact (Bool.false_ne_true h).elim
  | .bin o a b, G, lvl, X, sc, e, so, h => by
    cases e with
    | BinOp x p y pos =>
      obtain ⟨h, h3⟩ := and2 (show (o == p && ckE T a sc x && ckE T b sc y) = true from h)
      obtain ⟨h1, h2⟩ := and2 h
      cases eqS h1
      exact plain3 (sE_bin (okE a so h2).1 (okE b so h3).1) rfl
    | _ => exact (Bool.false_ne_true h).elim
  | .neg a, G, lvl, X, sc, e, so, h => by
    unfold ckE at h
    split at h
    · exact ⟨sE_neg (okE a so h).1, sT_val (sE_neg (okE a so h).1) (fun _ => rfl), fun op vs p z => by cases z⟩
    · cases h
  | .cmp o a b, G, lvl, X, sc, e, so, h => by
    unfold ckE at h
    split at h
    · obtain ⟨h, h4⟩ := and2 h
      obtain ⟨h, h3⟩ := and2 h
      obtain ⟨h1, h2⟩ := and2 h
      cases eqS h1
      exact ⟨sE_cmp so.ok (okE a so h2).1 (okE b so h3).1 (set_mark h4), sT_cmp so.ok (okE a so h2).1 (okE b so h3).1 (set_mark h4), fun op vs p z => by cases z⟩
    · cases h
  | .chain o o2 a b c, G, lvl, X, sc, e, so, h => by
    unfold ckE at h
    split at h
    · obtain ⟨h, h6⟩ := and2 h
      obtain ⟨h, h5⟩ := and2 h
      obtain ⟨h, h4⟩ := and2 h
      obtain ⟨h, h3⟩ := and2 h
      obtain ⟨h1, h2⟩ := and2 h
      cases eqS h1
      cases eqS h2
      have hm : ∀ (o o2 : CmpOp) (y z : Expr), notSet z = true → lastMarks [o, o2] [y, z] = false := fun o o2 y z q => set_mark q
      exact ⟨sE_chain so.ok (okE a so h3).1 (okE b so h4).1 (okE c so h5).1 (hm _ _ _ _ h6), sT_chain so.ok (okE a so h3).1 (okE b so h4).1 (okE c so h5).1 (hm _ _ _ _ h6), fun op vs p z => by cases z⟩
    · cases h
  | .land a b, G, lvl, X, sc, e, so, h => by
    unfold ckE at h
    split at h
    · rename_i x y p
      obtain ⟨h1, h2⟩ := and2 h
      have w := sT_and (G := G) (pos := p) (okE a so h1).2.1 (pw_and1 (okE b so h2).2.1)
      exact ⟨sE_and (okE a so h1).1 (pe_one (okE b so h2).1), (w).pt, fun op vs p z => by cases z; exact w⟩
    · obtain ⟨h1, h2⟩ := and2 h
      have w := sT_and (G := G) (okE a so h1).2.1 ((okE b so h2).2.2 _ _ _ rfl)
      exact ⟨sE_and (okE a so h1).1 (okE b so h2).1, w.pt, fun op vs p z => by cases z; exact w⟩
    · cases h
  | .lor a b, G, lvl, X, sc, e, so, h => by
    unfold ckE at h
    split at h
    · rename_i x y p
      obtain ⟨h1, h2⟩ := and2 h
      have w := sT_or (G := G) (pos := p) (okE a so h1).2.1 (pw_or1 (okE b so h2).2.1)
      exact ⟨sE_or (okE a so h1).1 (pe_one (okE b so h2).1), (w).pt, fun op vs p z => by cases z; exact w⟩
    · obtain ⟨h1, h2⟩ := and2 h
      have w := sT_or (G := G) (okE a so h1).2.1 ((okE b so h2).2.2 _ _ _ rfl)
      exact ⟨sE_or (okE a so h1).1 (okE b so h2).1, w.pt, fun op vs p z => by cases z; exact w⟩
    · cases h
  | .lnot a, G, lvl, X, sc, e, so, h => by
    unfold ckE at h
    split at h
    · exact ⟨sE_not (okE a so h).1, sT_not (okE a so h).2.1, fun op vs p z => by cases z⟩
    · cases h
  | .ife c a b, G, lvl, X, sc, e, so, h => by
    unfold ckE at h
    split at h
    · obtain ⟨h, h3⟩ := and2 h
      obtain ⟨h1, h2⟩ := and2 h
      exact ⟨sE_ife (okE c so h1).2.1 (okE a so h2).1 (okE b so h3).1, pt_ifE (okE c so h1).2.1 (okE a so h2).2.1 (okE b so h3).2.1, fun op vs p z => by cases z⟩
    · cases h
  | .tup es, G, lvl, X, sc, e, so, h => by
    unfold ckE at h
    split at h
    · exact plain3 (sE_tup (okEs es so h)) rfl
    · cases h
  | .lst es, G, lvl, X, sc, e, so, h => by
    unfold ckE at h
    split at h
    · exact plain3 (sE_lst (okEs es so h)) rfl
    · cases h
  | .idx a i, G, lvl, X, sc, e, so, h => by
    unfold ckE at h
    split at h
    · obtain ⟨h, h3⟩ := and2 h
      obtain ⟨h1, h2⟩ := and2 h
      exact plain3 (sE_idx (okE a so h1).1 (okE i so h2).1 (slice_ok h3)) rfl
    · cases h
  | .slc a lo hi, G, lvl, X, sc, e, so, h => by
    unfold ckE at h
    split at h
    · obtain ⟨h, h3⟩ := and2 h
      obtain ⟨h1, h2⟩ := and2 h
      exact plain3 (sE_slc (okE a so h1).1 (okO lo so h2) (okO hi so h3)) rfl
    · cases h
  | .call g es dn, G, lvl, X, sc, e, so, h => by
    unfold ckE at h
    split at h
    · rename_i x p xs pos
      obtain ⟨h, h4⟩ := and2 h
      obtain ⟨h, h3⟩ := and2 h
      obtain ⟨h1, h2⟩ := and2 h
      obtain ⟨n1, n2⟩ := nameB_ok h3
      cases eqS h1
      refine plain3 ?_ rfl
      have ha := okEs es so h4
      have hst := ckEs_star h4
      cases hD : G.c.D g with
      | fn sp n dfl =>
        cases xs with
        | nil =>
          cases es with
          | nil => exact sE_call0 so.ok hD (so.gl h2) n1
          | cons m r => exact (Bool.false_ne_true h4).elim
        | cons x xs =>
          obtain ⟨s1, s2⟩ := and2 (show (notStar x && xs.all notStar) = true from hst)
          exact sE_call so.ok hD (so.gl h2) n1 ha (star_ok s1) (plain_any s2)
      | cls C fz sp n dfl =>
        cases xs with
        | nil =>
          cases es with
          | nil => exact sE_make0 so.ok hD (so.gl h2) n1
          | cons m r => exact (Bool.false_ne_true h4).elim
        | cons x xs =>
          obtain ⟨s1, s2⟩ := and2 (show (notStar x && xs.all notStar) = true from hst)
          exact sE_make so.ok hD (so.gl h2) n1 ha (star_ok s1) (plain_any s2)
      | _ =>
        refine PE.not fun σ' H Q ⟨σ, S, hid, w, z⟩ => ?_
        have z1 : isCal (G.c.D g) := z.1
        rw [hD] at z1
        exact z1
    · cases h
  | .calln j i es, G, lvl, X, sc, e, so, h => by
    unfold ckE at h
    split at h
    · rename_i x p a r pos
      obtain ⟨h, h4⟩ := and2 h
      obtain ⟨h, h3⟩ := and2 h
      obtain ⟨h1, h2⟩ := and2 h
      obtain ⟨n1, n2⟩ := nameB_ok h3
      obtain ⟨s1, s2⟩ := and2 (show (notStar a && r.all notStar) = true from ckEs_star h4)
      exact plain3 (sE_calln so.ok (so.lok j) (so.ix h1) (so.vis h2) n1 n2 (okEs es so h4) (star_ok s1) (plain_any s2)) rfl
    · cases h
  | .callk g es ks kes, G, lvl, X, sc, e, so, h => by
    unfold ckE at h
    split at h
    · rename_i x p a r kws pos
      obtain ⟨h, h5⟩ := and2 h
      obtain ⟨h, h4⟩ := and2 h
      obtain ⟨h, h3⟩ := and2 h
      obtain ⟨h1, h2⟩ := and2 h
      obtain ⟨n1, n2⟩ := nameB_ok h3
      cases eqS h1
      refine plain3 ?_ rfl
      have ha := okEs es so h4
      have hst := ckEs_star h4
      obtain ⟨s1, s2⟩ := and2 (show (notStar a && r.all notStar) = true from hst)
      obtain ⟨k1, k2, k3, k4⟩ := okKs kes so h5
      cases hD : G.c.D g with
      | fnk sp n np ks' =>
        by_cases hq : ks = ks'
        · subst hq
          exact sE_callk so.ok hD (so.gl h2) n1 ha k1 (k2 pos) (k3 pos) (star_ok s1) (by rw [plain_any hst, k4 pos]; rfl)
        · refine PE.not fun σ' H Q ⟨σ, S, hid, w, z⟩ => ?_
          have z1 : isCalk (G.c.D g) ks := z.1
          rw [hD] at z1
          exact hq z1
      | _ =>
        refine PE.not fun σ' H Q ⟨σ, S, hid, w, z⟩ => ?_
        have z1 : isCalk (G.c.D g) ks := z.1
        rw [hD] at z1
        exact z1
    · cases h
  | .bf f es, G, lvl, X, sc, e, so, h => by
    unfold ckE at h
    split at h
    · rename_i t m
      split at h
      · rename_i x p a y p2 pos
        obtain ⟨h, h7⟩ := and2 h
        obtain ⟨h, h6⟩ := and2 h
        obtain ⟨h, h5⟩ := and2 h
        obtain ⟨h, h4⟩ := and2 h
        obtain ⟨h, h3⟩ := and2 h
        obtain ⟨h1, h2⟩ := and2 h
        obtain ⟨n1, n2⟩ := nameB_ok h4
        cases eqS h1
        refine plain3 ?_ rfl
        have hm := so.bl ("isinstance" : Str) (by decide)
        have ty : ∀ (t : Ty) (T0 : String) (nmT : Str), tyN t = some T0 → tyName t = some nmT → y = nmT → bnames.contains nmT = true → bootBuiltins nmT = some (.type T0) → nmT ≠ "__name__" → PE X (.Call (.Name ("isinstance" : Str) p) [a, .Name y p2] [] pos) (tEv G X.K (.bf (.isi t) (.cons m .nil))) :=
          fun t T0 nmT e1 e2 e3 e4 e5 e6 => by
            subst e3
            exact sE_isiT e1 (so.gl h2) hm (so.gl h3) (so.bl _ e4) e5 (okE m so h6).1 e6 n1 (star_ok h5)
        cases t with
        | cls g =>
          cases eqS (show (y == T.nm g) = true from h7)
          exact sE_isiC so.ok (so.gl h2) hm (so.gl h3) (okE m so h6).1 n1 (star_ok h5)
        | int => exact ty .int "int" ("int" : Str) rfl rfl (Option.some.inj (eqS h7)).symm (by decide) (by decide +kernel) (by decide)
        | bool => exact ty .bool "bool" ("bool" : Str) rfl rfl (Option.some.inj (eqS h7)).symm (by decide) (by decide +kernel) (by decide)
        | str => exact ty .str "str" ("str" : Str) rfl rfl (Option.some.inj (eqS h7)).symm (by decide) (by decide +kernel) (by decide)
        | tup => exact ty .tup "tuple" ("tuple" : Str) rfl rfl (Option.some.inj (eqS h7)).symm (by decide) (by decide +kernel) (by decide)
        | lst => exact ty .lst "list" ("list" : Str) rfl rfl (Option.some.inj (eqS h7)).symm (by decide) (by decide +kernel) (by decide)
      · cases h
    · split at h
      · rename_i hne x p a r pos
        obtain ⟨h, h4⟩ := and2 h
        obtain ⟨h, h3⟩ := and2 h
        obtain ⟨h1, h2⟩ := and2 h
        refine plain3 ?_ rfl
        have ha := okEs es so h4
        obtain ⟨s1, s2⟩ := and2 (show (notStar a && r.all notStar) = true from ckEs_star h4)
        have bb : ∀ (f : Bf) (id : String) (nmF : Str), (∀ t, f ≠ .isi t) → bfCall f = .builtin id → x = nmF → bnames.contains nmF = true → bootBuiltins nmF = some (.builtin id) → nmF ≠ "__name__" → (nmF == ("__debug__" : Str)) = false → PE X (.Call (.Name x p) (a :: r) [] pos) (tEv G X.K (.bf f es)) :=
          fun f id nmF e0 e1 e3 e4 e5 e6 e7 => by
            subst e3
            exact sE_bf so.ok e0 e1 (so.gl h2) (so.bl _ e4) e5 ha e6 e7 (star_ok s1) (plain_any s2)
        have bt : ∀ (f : Bf) (id : String) (nmF : Str), (∀ t, f ≠ .isi t) → bfCall f = .type id → x = nmF → bnames.contains nmF = true → bootBuiltins nmF = some (.type id) → nmF ≠ "__name__" → (nmF == ("__debug__" : Str)) = false → PE X (.Call (.Name x p) (a :: r) [] pos) (tEv G X.K (.bf f es)) :=
          fun f id nmF e0 e1 e3 e4 e5 e6 e7 => by
            subst e3
            exact sE_bfT so.ok e0 e1 (so.gl h2) (so.bl _ e4) e5 ha e6 e7 (star_ok s1) (plain_any s2)
        cases f with
        | isi t => exact (Bool.false_ne_true h3).elim
        | len => exact bb .len "len" ("len" : Str) (fun _ z => nomatch z) rfl (eqS h1) (by decide) (by decide +kernel) (by decide) (by decide)
        | abs => exact bb .abs "abs" ("abs" : Str) (fun _ z => nomatch z) rfl (eqS h1) (by decide) (by decide +kernel) (by decide) (by decide)
        | repr => exact bb .repr "repr" ("repr" : Str) (fun _ z => nomatch z) rfl (eqS h1) (by decide) (by decide +kernel) (by decide) (by decide)
        | sum => exact bb .sum "sum" ("sum" : Str) (fun _ z => nomatch z) rfl (eqS h1) (by decide) (by decide +kernel) (by decide) (by decide)
        | min => exact bb .min "min" ("min" : Str) (fun _ z => nomatch z) rfl (eqS h1) (by decide) (by decide +kernel) (by decide) (by decide)
        | max => exact bb .max "max" ("max" : Str) (fun _ z => nomatch z) rfl (eqS h1) (by decide) (by decide +kernel) (by decide) (by decide)
        | all => exact bb .all "all" ("all" : Str) (fun _ z => nomatch z) rfl (eqS h1) (by decide) (by decide +kernel) (by decide) (by decide)
        | any => exact bb .any "any" ("any" : Str) (fun _ z => nomatch z) rfl (eqS h1) (by decide) (by decide +kernel) (by decide) (by decide)
        | sorted => exact bb .sorted "sorted" ("sorted" : Str) (fun _ z => nomatch z) rfl (eqS h1) (by decide) (by decide +kernel) (by decide) (by decide)
        | int => exact bt .int "int" ("int" : Str) (fun _ z => nomatch z) rfl (eqS h1) (by decide) (by decide +kernel) (by decide) (by decide)
        | str => exact bt .str "str" ("str" : Str) (fun _ z => nomatch z) rfl (eqS h1) (by decide) (by decide +kernel) (by decide) (by decide)
        | tuple => exact bt .tuple "tuple" ("tuple" : Str) (fun _ z => nomatch z) rfl (eqS h1) (by decide) (by decide +kernel) (by decide) (by decide)
        | list => exact bt .list "list" ("list" : Str) (fun _ z => nomatch z) rfl (eqS h1) (by decide) (by decide +kernel) (by decide) (by decide)
      · cases h
  | .bm m o es, G, lvl, X, sc, e, so, h => by
    unfold ckE at h
    split at h
    · rename_i x f p a r p2
      obtain ⟨h, h6⟩ := and2 h
      obtain ⟨h, h5⟩ := and2 h
      obtain ⟨h, h4⟩ := and2 h
      obtain ⟨h, h3⟩ := and2 h
      obtain ⟨h1, h2⟩ := and2 h
      cases eqS h1
      have st := ckEs_star h6
      obtain ⟨s1, s2⟩ := and2 (show (notStar a && r.all notStar) = true from st)
      refine plain3 (sE_append (okE o so h5).1 (okEs es so h6) (base_ok h4) ?_ h2 (star_ok s1) (plain_any s2)) rfl
      rw [plain_all st]
      have h3 := of_decide_eq_true h3
      show decide ((a :: r).length + 0 + 0 < 30) = true
      exact decide_eq_true (by omega)
    · rename_i x f p a b p2
      obtain ⟨h, h7⟩ := and2 h
      obtain ⟨h, h6⟩ := and2 h
      obtain ⟨h, h5⟩ := and2 h
      obtain ⟨h, h4⟩ := and2 h
      obtain ⟨h, h3⟩ := and2 h
      obtain ⟨h1, h2⟩ := and2 h
      cases eqS h1
      split at h7
      · rename_i ma mb
        obtain ⟨h8, h9⟩ := and2 h7
        have st : starEach [a, b] X.env = [(false, eval a X.env), (false, eval b X.env)] := by rw [star_ok h4, star_ok h5]; rfl
        exact plain3 (sE_get so.ok (okE o so h6).1 (okE ma so h8).1 (okE mb so h9).1 ⟨base_ok h3, by rw [st]; rfl, h2, by rw [st]; rfl⟩) rfl
      · cases h7
    · cases h
  | .attr o f, G, lvl, X, sc, e, so, h => by
    unfold ckE at h
    split at h
    · obtain ⟨h, h3⟩ := and2 h
      obtain ⟨h1, h2⟩ := and2 h
      cases eqS h1
      exact plain3 (sE_attr so.ok (okE o so h3).1 (base_ok h2)) rfl
    · cases h
  | .comp elt t it ifs own, G, lvl, X, sc, e, so, h => by
    unfold ckE at h
    split at h
    · rename_i el tg iter fs k scope pos
      obtain ⟨h, h8⟩ := and2 h
      obtain ⟨h, h7⟩ := and2 h
      obtain ⟨h, h6⟩ := and2 h
      obtain ⟨h, h5⟩ := and2 h
      obtain ⟨h, h4⟩ := and2 h
      obtain ⟨h, h3⟩ := and2 h
      obtain ⟨h, h2⟩ := and2 h
      obtain ⟨h1, h0⟩ := and2 h
      cases eqS h1
      split at h5
      · rename_i ow hw
        obtain ⟨q1, q2⟩ := ownOf_ok hw
        subst q2
        have ht : ∀ i, i ∈ tgs t → i ∈ ow.map (·.2) := fun i hi => by
          have := List.all_eq_true.mp h3 i hi
          simpa using this
        have hb : BlkOk X.N X.env.scope scope ow := by
          rw [so.N, so.sc]
          exact blkB_ok q1 h5
        refine plain3 (sE_comp so.ok (okIt it so h4) hb ht ⟨fun pn σb u G0 I hag C cl fp nc => ckTg_ok so.ok.calm so.N so.ok.nd (fun x hx => ?_) h6, fun pn σb u G0 I hag C cl fp nc => okFs ifs (so.blk h0 I hag scope cl C fp nc) h7, fun pn σb u G0 I hag C cl fp nc => (okE elt (so.blk h0 I hag scope cl C fp nc) h8).1⟩ (set_iter h2)) rfl
        obtain ⟨l1, l2⟩ := and2 hx
        rw [(so.blk h0 I hag scope cl C fp nc).sc]
        exact ⟨locB_ok l1, ((Bool.or_eq_true _ _).mp l2).imp id fun z => eqS z⟩
      · cases h5
    · cases h
  | .srtLen m, G, lvl, X, sc, e, so, h => by
    unfold ckE at h
    split at h
    · obtain ⟨h, h7⟩ := and2 h
      obtain ⟨h, h6⟩ := and2 h
      obtain ⟨h, h5⟩ := and2 h
      obtain ⟨h, h4⟩ := and2 h
      obtain ⟨h, h3⟩ := and2 h
      obtain ⟨h1, h2⟩ := and2 h
      cases eqS h1
      cases eqS h2
      cases eqS h3
      exact plain3 (sE_srtLen so.ok (so.gl h4) (so.bl _ (by decide)) (so.gl h5) (so.bl _ (by decide)) (okE m so h7).1 (by rw [star_ok h6]; rfl)) rfl
    · cases h
  | .dzip a b, G, lvl, X, sc, e, so, h => by
    unfold ckE at h
    split at h
    · obtain ⟨h, h9⟩ := and2 h
      obtain ⟨h, h8⟩ := and2 h
      obtain ⟨h, h7⟩ := and2 h
      obtain ⟨h, h6⟩ := and2 h
      obtain ⟨h, h5⟩ := and2 h
      obtain ⟨h, h4⟩ := and2 h
      obtain ⟨h, h3⟩ := and2 h
      obtain ⟨h1, h2⟩ := and2 h
      cases eqS h1
      cases eqS h2
      cases eqS h3
      refine plain3 (sE_dzip so.ok (so.gl h5) (so.bl _ (by decide)) (so.gl h4) (so.bl _ (by decide)) (okE a so h8).1 (okE b so h9).1 (star_ok h6) (by rw [star_ok h7]; rfl) (plain_any ?_)) rfl
      show (notStar _ && (notStar _ && true)) = true
      rw [h6, h7]
      rfl
    · cases h
theorem okEs : ∀ (m : Es) {G : SX} {lvl : Nat} {X : Cx} {sc : Scope} {xs : List Expr}, SOk T G lvl X sc → ckEs T m sc xs = true → PA X xs (tAv G X.K m)
  | .nil, G, lvl, X, sc, [], so, h => sA_nil
  | .nil, G, lvl, X, sc, _ :: _, so, h => (Bool.false_ne_true h).elim
  | .cons m r, G, lvl, X, sc, [], so, h => (Bool.false_ne_true h).elim
  | .cons m r, G, lvl, X, sc, x :: y, so, h => by
    obtain ⟨h, h3⟩ := and2 (show (notStar x && ckE T m sc x && ckEs T r sc y) = true from h)
    obtain ⟨h1, h2⟩ := and2 h
    exact sA_cons (okE m so h2).1 (okEs r so h3) (star_ok h1)
theorem okKs : ∀ (m : Es) {G : SX} {lvl : Nat} {X : Cx} {sc : Scope} {ks : List Str} {xs : List Keyword}, SOk T G lvl X sc → ckKs T m sc ks xs = true → PK X xs (tAv G X.K m) ∧ (∀ pos, (backToKw pos (keywordEach xs X.env)).all (·.1.isSome) = true) ∧
    (∀ pos, (backToKw pos (keywordEach xs X.env)).filterMap (·.1) = ks) ∧ ∀ pos, (backToKw pos (keywordEach xs X.env)).any (·.1.isNone) = false
  | .nil, G, lvl, X, sc, [], [], so, h => ⟨sK_nil, fun _ => rfl, fun _ => rfl, fun _ => rfl⟩
  | .nil, G, lvl, X, sc, _ :: _, _, so, h => (Bool.false_ne_true h).elim
  | .nil, G, lvl, X, sc, [], _ :: _, so, h => (Bool.false_ne_true h).elim
  | .cons m r, G, lvl, X, sc, [], _, so, h => (Bool.false_ne_true h).elim
  | .cons m r, G, lvl, X, sc, _ :: _, [], so, h => (Bool.false_ne_true h).elim
  | .cons m r, G, lvl, X, sc, k :: ks, ⟨none, x, kp⟩ :: xs, so, h => (Bool.false_ne_true h).elim
  | .cons m r, G, lvl, X, sc, k :: ks, ⟨some y, x, kp⟩ :: xs, so, h => by
    obtain ⟨h, h3⟩ := and2 (show (k == y && ckE T m sc x && ckKs T r sc ks xs) = true from h)
    obtain ⟨h1, h2⟩ := and2 h
    cases eqS h1
    obtain ⟨k1, k2, k3, k4⟩ := okKs r so h3
    refine ⟨sK_cons (okE m so h2).1 k1, fun pos => k2 pos, fun pos => ?_, fun pos => k4 pos⟩
    show k :: (backToKw pos (keywordEach xs X.env)).filterMap (·.1) = k :: ks
    rw [k3 pos]
theorem okO : ∀ (m : Eo) {G : SX} {lvl : Nat} {X : Cx} {sc : Scope} {o : Option Expr}, SOk T G lvl X sc → ckO T m sc o = true → PO X o (tOv G X.K m)
  | .no, G, lvl, X, sc, none, so, h => sO_none
  | .no, G, lvl, X, sc, some _, so, h => (Bool.false_ne_true h).elim
  | .so m, G, lvl, X, sc, some x, so, h => sO_some (okE m so h).1
  | .so m, G, lvl, X, sc, none, so, h => (Bool.false_ne_true h).elim
theorem okFs : ∀ (m : Eo) {G : SX} {lvl : Nat} {X : Cx} {sc : Scope} {xs : List Expr}, SOk T G lvl X sc → ckFs T m sc xs = true → PTs X xs (tBo G X.K m)
  | .no, G, lvl, X, sc, [], so, h => sB_none
  | .no, G, lvl, X, sc, _ :: _, so, h => (Bool.false_ne_true h).elim
  | .so m, G, lvl, X, sc, [x], so, h => sB_some (okE m so h).2.1
  | .so m, G, lvl, X, sc, [], so, h => (Bool.false_ne_true h).elim
  | .so m, G, lvl, X, sc, _ :: _ :: _, so, h => (Bool.false_ne_true h).elim
theorem okIt : ∀ (m : It) {G : SX} {lvl : Nat} {X : Cx} {sc : Scope} {tg x : Expr}, SOk T G lvl X sc → ckIt T m sc tg x = true → PI X tg x (iEv G X.K m)
  | .seq m, G, lvl, X, sc, tg, x, so, h => sI_seq (okE m so h).1
  | .rng a b, G, lvl, X, sc, tg, x, so, h => by
    unfold ckIt at h
    split at h
    · obtain ⟨h, h6⟩ := and2 h
      obtain ⟨h, h5⟩ := and2 h
      obtain ⟨h, h4⟩ := and2 h
      obtain ⟨h, h3⟩ := and2 h
      obtain ⟨h1, h2⟩ := and2 h
      cases eqS h1
      exact sI_rng (so.gl h2) (so.bl _ (by decide)) (okE a so h5).1 (okE b so h6).1 (by rw [star_ok h3, star_ok h4]; rfl) (by rw [star_ok h4]; rfl)
    · cases h
  | .rng1 b, G, lvl, X, sc, tg, x, so, h => by
    unfold ckIt at h
    split at h
    · obtain ⟨h, h4⟩ := and2 h
      obtain ⟨h, h3⟩ := and2 h
      obtain ⟨h1, h2⟩ := and2 h
      cases eqS h1
      exact sI_rng1 (so.gl h2) (so.bl _ (by decide)) (okE b so h4).1 (by rw [star_ok h3]; rfl)
    · cases h
  | .enum m, G, lvl, X, sc, tg, x, so, h => by
    unfold ckIt at h
    split at h
    · obtain ⟨h, h4⟩ := and2 h
      obtain ⟨h, h3⟩ := and2 h
      obtain ⟨h1, h2⟩ := and2 h
      cases eqS h1
      exact sI_enum (so.gl h2) (so.bl _ (by decide)) (okE m so h4).1 (by rw [star_ok h3]; rfl)
    · cases h
  | .zip a b, G, lvl, X, sc, tg, x, so, h => by
    unfold ckIt at h
    split at h
    · obtain ⟨h, h7⟩ := and2 h
      obtain ⟨h, h6⟩ := and2 h
      obtain ⟨h, h5⟩ := and2 h
      obtain ⟨h, h4⟩ := and2 h
      obtain ⟨h, h3⟩ := and2 h
      obtain ⟨h1, h2⟩ := and2 h
      cases eqS h1
      cases eqS h2
      refine sI_zip (so.gl h3) (so.bl _ (by decide)) (okE a so h6).1 (okE b so h7).1 (star_ok h4) (by rw [star_ok h5]; rfl) (plain_any ?_)
      show (notStar _ && (notStar _ && true)) = true
      rw [h4, h5]
      rfl
    · cases h
end
/-- what stands behind a comprehension that is checked -/
structure CompP (T : Tb) (G : SX) (X : Cx) (e : Expr) (elt : E) (t : Tg) (it : It) (ifs : Eo) (own : List Nat) (el tg iter : Expr) (fs : List Expr) (scope : Scope) (pos : Pos) (ow : List (Str × Nat)) : Prop where
  e : e = .ListComp el [⟨tg, iter, fs, 0⟩] scope pos
  own : ow.map (·.2) = own
  it : PI X tg iter (iEv G X.K it)
  blk : BlkOk X.N X.env.scope scope ow
  ht : ∀ i, i ∈ tgs t → i ∈ ow.map (·.2)
  bp : BlkP X G scope (ow.map (·.2)) tg fs el t ifs elt
  hs : ∀ x, foldedSetIterable iter X.env x = pure x
theorem comp_get {G : SX} {lvl : Nat} {X : Cx} {sc : Scope} {e : Expr} {elt : E} {t : Tg} {it : It} {ifs : Eo} {own : List Nat} (so : SOk T G lvl X sc) (h : ckE T (.comp elt t it ifs own) sc e = true) : ∃ el tg iter fs scope pos ow, CompP T G X e elt t it ifs own el tg iter fs scope pos ow := by
  unfold ckE at h
  split at h
  · rename_i el tg iter fs k scope pos
    obtain ⟨h, h8⟩ := and2 h
    obtain ⟨h, h7⟩ := and2 h
    obtain ⟨h, h6⟩ := and2 h
    obtain ⟨h, h5⟩ := and2 h
    obtain ⟨h, h4⟩ := and2 h
    obtain ⟨h, h3⟩ := and2 h
    obtain ⟨h, h2⟩ := and2 h
    obtain ⟨h1, h0⟩ := and2 h
    cases eqS h1
    split at h5
    · rename_i ow hw
      obtain ⟨q1, q2⟩ := ownOf_ok hw
      subst q2
      have ht : ∀ i, i ∈ tgs t → i ∈ ow.map (·.2) := fun i hi => by
        have := List.all_eq_true.mp h3 i hi
        simpa using this
      have hb : BlkOk X.N X.env.scope scope ow := by
        rw [so.N, so.sc]
        exact blkB_ok q1 h5
      refine ⟨el, tg, iter, fs, scope, pos, ow, rfl, rfl, okIt it so h4, hb, ht, ⟨fun pn σb u G0 I hag C cl fp nc => ckTg_ok so.ok.calm so.N so.ok.nd (fun x hx => ?_) h6, fun pn σb u G0 I hag C cl fp nc => okFs ifs (so.blk h0 I hag scope cl C fp nc) h7, fun pn σb u G0 I hag C cl fp nc => (okE elt (so.blk h0 I hag scope cl C fp nc) h8).1⟩, set_iter h2⟩
      obtain ⟨l1, l2⟩ := and2 hx
      rw [(so.blk h0 I hag scope cl C fp nc).sc]
      exact ⟨locB_ok l1, ((Bool.or_eq_true _ _).mp l2).imp id fun z => eqS z⟩
    · cases h5
  · cases h
end
end Li
set_option Elab.async false
set_option linter.all false
set_option maxRecDepth 100000
set_option maxHeartbeats 4000000
/-! LiChkS: statements checked, and what is checked holds; a def of the program by its text in Li. -/
namespace Li
open PySem L2
def swB (sc : Scope) (e : Expr) (x : Str) (p : Pos) : Bool := match e with
  | .ListComp _ _ s p2 => isLoc sc x && p.line == p2.line && !(s.names.any fun (n, k) => n == x && (k == .local || k == .cell))
  | .SetComp _ _ s p2 => isLoc sc x && p.line == p2.line && !(s.names.any fun (n, k) => n == x && (k == .local || k == .cell))
  | .DictComp _ _ _ s p2 => isLoc sc x && p.line == p2.line && !(s.names.any fun (n, k) => n == x && (k == .local || k == .cell))
  | _ => false
def notTup : Expr → Bool
  | .Tuple _ _ _ => false
  | _ => true
/-- a list just made -/
def frB : E → Bool
  | .lst _ => true
  | .comp _ _ _ _ _ => true
  | .bf .list _ => true
  | .bin .Add _ _ => true
  | _ => false
/-- the stores of a, .. = .. stand in their order -/
def unpB (sc : Scope) (ts : List Expr) (e : Expr) : Bool := notTup e || ts.any fun t => match t with
  | .Name x _ => !isLoc sc x
  | _ => true
def parB (sc : Scope) (x y : Str) (px py : Pos) (a b : Expr) : Bool :=
  isLoc sc x && isLoc sc y && px.line == py.line && (x == y) == false && [a, b].all (foldedForSure 8) == false && [a, b].all (constantsAlone 8) == false && notStar a && notStar b
mutual
def ckS (T : Tb) (sc : Scope) : Sm → Stmt → Bool
  | .set i m, st => match st with
    | .Assign [.Name x p] e _ => T.N[i]? == some x && locB sc x && ckE T m sc e && (match swB sc e x p with
      | false => true
      | true => isLoc sc x && (match m with
        | .comp _ _ _ _ _ => true
        | _ => false))
    | _ => false
  | .setc i m, st => match st with
    | .Assign [.Name x p] e _ => T.N[i]? == some x && locB sc x && frB m && ckE T m sc e && (match swB sc e x p with
      | false => true
      | true => isLoc sc x && (match m with
        | .comp _ _ _ _ _ => true
        | _ => false))
    | _ => false
  | .ndef i j, st => T.ndc j i sc st
  | .unp ts m, st => match st with
    | .Assign [.Tuple es k p] e _ => ckTg T (locB sc) (.many ts) (.Tuple es k p) && unpB sc es e && ckE T m sc e
    | _ => false
  | .par i j ci cj a b, st => match st with
    | .Assign [.Tuple [.Name x px, .Name y py] _ _] (.Tuple [e1, e2] _ _) _ => !ci && !cj && T.N[i]? == some x && T.N[j]? == some y && parB sc x y px py e1 e2 && ckE T a sc e1 && ckE T b sc e2
    | _ => false
  | .aug i o m, st => match st with
    | .AugAssign (.Name x _) p e _ => T.N[i]? == some x && locB sc x && o == p && ckE T m sc e
    | _ => false
  | .sub a i m, st => match st with
    | .Assign [.Subscript x y _] e _ => notSlice y && ckE T a sc x && ckE T i sc y && ckE T m sc e
    | _ => false
  | .asub a i o m, st => match st with
    | .AugAssign (.Subscript x y _) p e _ => o == p && notSlice y && ckE T a sc x && ckE T i sc y && ckE T m sc e
    | _ => false
  | .att o f m, st => match st with
    | .Assign [.Attribute x g _] e _ => f == g && ckE T o sc x && ckE T m sc e
    | _ => false
  | .ex m, st => match st with
    | .Expr e _ => notComp e && ckE T m sc e
    | _ => false
  | .ret m fr, st => match st with
    | .Return (some e) _ => ckE T m sc e
    | _ => false
  | .retc m, st => match st with
    | .Return (some e) _ => frB m && ckE T m sc e
    | _ => false
  | .retn fr, st => match st with
    | .Return none _ => true
    | _ => false
  | .ifs c a b, st => match st with
    | .If t x y _ => ckE T c sc t && ckSs T sc a x && ckSs T sc b y
    | _ => false
  | .whl c b, st => match st with
    | .While t x [] _ => ckE T c sc t && ckSs T sc b x
    | _ => false
  | .forr t it b, st => match st with
    | .For tg iter x [] _ => ckTg T (locB sc) t tg && notSet iter && ckIt T it sc tg iter && ckSs T sc b x
    | _ => false
  | .raise _ _, st => true
  | .pass, st => match st with
    | .Pass _ => true
    | _ => false
  | .brk, st => match st with
    | .Break _ => true
    | _ => false
  | .cont, st => match st with
    | .Continue _ => true
    | _ => false
def ckSs (T : Tb) (sc : Scope) : Ss → List Stmt → Bool
  | .nil, xs => xs.isEmpty
  | .cons s r, xs => match xs with
    | x :: y => ckS T sc s x && ckSs T sc r y
    | [] => false
end
/-! ### what is checked holds -/
structure TOk (T : Tb) (G : SX) (lvl : Nat) (X : Cx) (sc : Scope) : Prop where
  so : SOk T G lvl X sc
  fn : ∀ x, locB sc x = true → X.fn x = true ∨ X.env.scope.names.lookup x = some .local
  kind : sc.kind = .function
  po : PassesOwn (model X.prog X.w) X.A X.env X.xe
  ndc : ∀ j i st, T.ndc j i sc st = true → PS X st (tSv G X.K (.ndef i j))
section
variable {T : Tb} {G : SX} {lvl : Nat} {X : Cx} {sc : Scope}
theorem TOk.bk (so : TOk T G lvl X sc) : X.env.blockKind = .function := by
  unfold PySem.Env.blockKind
  rw [so.so.sc, so.kind]
  rfl
theorem sw_ok (so : TOk T G lvl X sc) (e : Expr) (x : Str) (p : Pos) (n : Nat) : swapsWith e (some (.Name x p)) n X.env = pure (swB sc e x p) := by
  have hk : X.env.kindOf x = sc.names.lookup x := by
    unfold PySem.Env.kindOf
    rw [so.so.sc]
  have go : ∀ (s : Scope) (p2 : Pos), (X.env.blockKind == ScopeKind.function && X.env.kindOf x == some NameKind.local && p.line == p2.line && !(s.names.any fun (n, k) => n == x && (k == .local || k == .cell))) = (isLoc sc x && p.line == p2.line && !(s.names.any fun (n, k) => n == x && (k == .local || k == .cell))) := fun s p2 => by
    rw [so.bk, hk]
    rfl
  cases e <;> first
    | rfl
    | (show (pure _ : Sem Bool) = pure _; exact congrArg _ (go _ _))
theorem sw_none {e : Expr} {n : Nat} {env : PySem.Env} (h : notComp e = true) : swapsWith e none n env = pure false := by
  cases e <;> first
    | rfl
    | exact (Bool.false_ne_true h).elim
theorem sw_att {e o : Expr} {f : Str} {p : Pos} {n : Nat} {env : PySem.Env} : swapsWith e (some (.Attribute o f p)) n env = pure false := by
  cases e <;> rfl
theorem sw_sub {e o i : Expr} {p : Pos} {n : Nat} {env : PySem.Env} : swapsWithSole [.Subscript o i p] e n env = pure false := by
  cases e <;> rfl
theorem sw_tup {e : Expr} {es : List Expr} {k : Nat} {p : Pos} {n : Nat} {env : PySem.Env} : swapsWithSole [.Tuple es k p] e n env = pure false := by
  cases e <;> rfl
theorem ss_sub {e o i : Expr} {p : Pos} {env : PySem.Env} : swappedStores [.Subscript o i p] e env = pure none := by
  cases e <;> rfl
theorem ss_tup {e : Expr} {es : List Expr} {k : Nat} {p : Pos} {env : PySem.Env} (h : notTup e = true) : swappedStores [.Tuple es k p] e env = pure none := by
  cases e <;> first
    | rfl
    | exact (Bool.false_ne_true h).elim
theorem fm_lt {α β : Type} {f : α → Option β} : ∀ {l : List α}, (l.any fun x => (f x).isNone) = true → (l.filterMap f).length < l.length
  | x :: l, h => by
    rw [List.any_cons] at h
    rw [List.filterMap_cons]
    cases e : f x with
    | none =>
      have := List.length_filterMap_le f l
      show (l.filterMap f).length < l.length + 1
      omega
    | some y =>
      rw [e] at h
      have := fm_lt (l := l) (by simpa using h)
      show (l.filterMap f).length + 1 < l.length + 1
      omega
theorem ss_unp (so : TOk T G lvl X sc) {es : List Expr} {e : Expr} {k : Nat} {p : Pos} (h : unpB sc es e = true) : swappedStores [.Tuple es k p] e X.env = pure none := by
  rcases (Bool.or_eq_true _ _).mp h with h | h
  · exact ss_tup h
  · cases e with
    | Tuple vs k2 p2 =>
      have q : ∀ (line : Nat), (es.any fun t => (match t with
        | .Name id pos => if X.env.kindOf id == some NameKind.local && pos.line == line then some id else none
        | _ => none).isNone) = true := fun line => by
        obtain ⟨t, ht, hq⟩ := List.any_eq_true.mp h
        refine List.any_eq_true.mpr ⟨t, ht, ?_⟩
        cases t with
        | Name x p =>
          have hk : X.env.kindOf x = sc.names.lookup x := by
            unfold PySem.Env.kindOf
            rw [so.so.sc]
          have hq : (!(sc.names.lookup x == some NameKind.local)) = true := hq
          show (if (X.env.kindOf x == some NameKind.local && p.line == line) = true then some x else none).isNone = true
          rw [hk]
          cases hh : sc.names.lookup x == some NameKind.local with
          | true =>
            rw [hh] at hq
            cases hq
          | false => rfl
        | _ => rfl
      unfold swappedStores
      simp only []
      split
      · rfl
      · split
        · rfl
        · have ne := fm_lt (q ((es.head?.map (·.pos.line)).getD 0))
          rw [if_pos]
          rw [Bool.or_eq_true]
          exact .inl (bne_iff_ne.mpr (Nat.ne_of_lt ne))
    | _ => rfl
theorem ss_par (so : TOk T G lvl X sc) {x y : Str} {px py : Pos} {a b : Expr} {k k2 : Nat} {p p2 : Pos} (h : parB sc x y px py a b = true) : swappedStores [.Tuple [.Name x px, .Name y py] k p] (.Tuple [a, b] k2 p2) X.env = pure (some [x, y]) := by
  obtain ⟨h, h8⟩ := and2 h
  obtain ⟨h, h7⟩ := and2 h
  obtain ⟨h, h6⟩ := and2 h
  obtain ⟨h, h5⟩ := and2 h
  obtain ⟨h, h4⟩ := and2 h
  obtain ⟨h, h3⟩ := and2 h
  obtain ⟨h1, h2⟩ := and2 h
  have kx : X.env.kindOf x = some .local := by
    unfold PySem.Env.kindOf
    rw [so.so.sc]
    exact eqS h1
  have ky : X.env.kindOf y = some .local := by
    unfold PySem.Env.kindOf
    rw [so.so.sc]
    exact eqS h2
  have hxy : (x == y) = false := eqS h4
  have hyx : (y == x) = false := by
    cases e : y == x with
    | false => rfl
    | true =>
      rw [eqS e] at hxy
      simp at hxy
  have hl : px.line = py.line := eqS h3
  have st : ∀ {e : Expr}, notStar e = true → (match e with
    | .Starred .. => true
    | _ => false) = false := fun {e} z => by
    cases e <;> first
      | rfl
      | exact (Bool.false_ne_true z).elim
  unfold swappedStores
  simp only [List.length_cons, List.length_nil, so.bk, List.any_cons, List.any_nil, st h7, st h8, List.head?_cons, Option.map_some, Option.getD_some, List.filterMap_cons, List.filterMap_nil, kx, ky, eqS h5, eqS h6, Expr.pos, hl]
  simp [List.eraseDups_cons, hxy, hyx]
  intro z
  exfalso
  rcases z with z | z
  · cases a <;> first
      | exact Bool.false_ne_true z
      | exact Bool.false_ne_true h7
  · cases b <;> first
      | exact Bool.false_ne_true z
      | exact Bool.false_ne_true h8
theorem each1 {e : Expr} {env : PySem.Env} (h : notStar e = true) : (assignEach [e] env).map (·.2) = [assign e env] := by
  cases e <;> first
    | rfl
    | exact (Bool.false_ne_true h).elim
theorem sub_asg {a i : Expr} {tp : Pos} {env : PySem.Env} (h : notSlice i = true) : ∀ v, assign (.Subscript a i tp) env v = (do
      let ov ← holding [v] (eval a env)
      let iv ← holding [v, ov] (eval i env)
      standAt tp
      holding [v, ov, iv] (setItem ov iv v)
      release [v, ov, iv] []) := by
  intro v
  cases i <;> first
    | rfl
    | exact (Bool.false_ne_true h).elim
theorem aug_st {i : Expr} (h : notSlice i = true) : ∀ ov iv new, augStore i ov iv new = (do holding [new, ov, iv] (setItem ov iv new); release [new, ov, iv] []; pure .next) := by
  intro ov iv new
  cases i <;> first
    | rfl
    | exact (Bool.false_ne_true h).elim
theorem okF (so : SOk T G lvl X sc) {m : E} {e : Expr} (hf : frB m = true) (h : ckE T m sc e = true) : PE X e (tEf G X.K m) := by
  cases m with
  | lst es =>
    unfold ckE at h
    split at h
    · exact sF_lst (okEs es so h)
    · cases h
  | comp elt t it ifs own =>
    obtain ⟨el, tg, iter, fs, scope, pos, ow, C⟩ := comp_get so h
    cases C.e
    cases C.own
    exact sF_comp so.ok C.it C.blk C.ht C.bp C.hs
  | bf f es =>
    cases f with
    | list =>
      unfold ckE at h
      split at h
      · exact absurd (by assumption : Bf.list = Bf.isi _) (fun z => nomatch z)
      · split at h
        · rename_i hne x p a r pos
          obtain ⟨h, h4⟩ := and2 h
          obtain ⟨h, h3⟩ := and2 h
          obtain ⟨h1, h2⟩ := and2 h
          have ha := okEs _ so h4
          obtain ⟨s1, s2⟩ := and2 (show (notStar a && r.all notStar) = true from ckEs_star h4)
          cases eqS h1
          exact sF_list so.ok (so.gl h2) (so.bl _ (by decide)) (by decide +kernel) ha (by decide) (by decide) (star_ok s1) (plain_any s2)
        · cases h
    | _ => exact (Bool.false_ne_true hf).elim
  | bin o a b =>
    cases o with
    | Add =>
      unfold ckE at h
      split at h
      · obtain ⟨h, h3⟩ := and2 h
        obtain ⟨h1, h2⟩ := and2 h
        cases eqS h1
        exact sF_add (okE a so h2).1 (okE b so h3).1
      · cases h
    | _ => exact (Bool.false_ne_true hf).elim
  | _ => exact (Bool.false_ne_true hf).elim
theorem PS.not {e : Stmt} {t : TS} (h : ∀ D σ H, ¬ t D σ H) : PS X e t := ⟨fun _ _ _ _ _ _ q => (h _ _ _ q).elim⟩
theorem TOk.lk (so : TOk T G lvl X sc) : ∀ x, locB sc x = true → Loc X.env.scope x ∧ (X.fn x = true ∨ X.env.scope.names.lookup x = some .local) := fun x h => by
  have q := so.fn x h
  rw [so.so.sc] at q ⊢
  exact ⟨locB_ok h, q⟩
variable [AgT G]
mutual
theorem okS : ∀ (m : Sm) {st : Stmt}, TOk T G lvl X sc → ckS T sc m st = true → PS X st (tSv G X.K m)
  | .set i m, st, so, h => by
    unfold ckS at h
    split at h
    · rename_i x p e pos
      obtain ⟨h, h4⟩ := and2 h
      obtain ⟨h, h3⟩ := and2 h
      obtain ⟨h1, h2⟩ := and2 h
      have sw := sw_ok so e x p pos.line
      split at h4
      · rename_i hb
        rw [hb] at sw
        exact sS_set so.so.ok.nd (so.so.ix h1) (so.lk x h2).1 (okE m so.so h3).1 sw (so.fn x h2)
      · rename_i hb
        rw [hb] at sw
        obtain ⟨h5, h6⟩ := and2 h4
        cases m with
        | comp elt t it ifs own =>
          obtain ⟨el, tg, iter, fs, scope, pos, ow, C⟩ := comp_get so.so h3
          cases C.e
          cases C.own
          exact sS_setLc so.so.ok (so.so.ix h1) (by rw [so.so.sc]; exact eqS h5) sw C.it C.blk C.ht C.bp C.hs
        | _ => exact (Bool.false_ne_true h6).elim
    · cases h
  | .setc i m, st, so, h => by
    unfold ckS at h
    split at h
    · rename_i x p e pos
      obtain ⟨h, h4⟩ := and2 h
      obtain ⟨h, h3⟩ := and2 h
      obtain ⟨h, hf⟩ := and2 h
      obtain ⟨h1, h2⟩ := and2 h
      have sw := sw_ok so e x p pos.line
      split at h4
      · rename_i hb
        rw [hb] at sw
        exact sS_setc so.so.ok.nd (so.so.ix h1) (so.lk x h2).1 (okF so.so hf h3) sw (so.fn x h2)
      · rename_i hb
        rw [hb] at sw
        obtain ⟨h5, h6⟩ := and2 h4
        cases m with
        | comp elt t it ifs own =>
          obtain ⟨el, tg, iter, fs, scope, pos, ow, C⟩ := comp_get so.so h3
          cases C.e
          cases C.own
          exact sS_setcLc so.so.ok (so.so.ix h1) (by rw [so.so.sc]; exact eqS h5) sw C.it C.blk C.ht C.bp C.hs
        | _ => exact (Bool.false_ne_true h6).elim
    · cases h
  | .ndef i j, st, so, h => so.ndc j i st (by unfold ckS at h; exact h)
  | .unp ts m, st, so, h => by
    unfold ckS at h
    split at h
    · obtain ⟨h, h3⟩ := and2 h
      obtain ⟨h1, h2⟩ := and2 h
      exact sS_unp (okE m so.so h3).1 (ckTg_ok so.so.ok.calm so.so.N so.so.ok.nd so.lk h1) sw_tup (ss_unp so h2) rfl
    · cases h
  | .par i j ci cj a b, st, so, h => by
    unfold ckS at h
    split at h
    · obtain ⟨h, h7⟩ := and2 h
      obtain ⟨h, h6⟩ := and2 h
      obtain ⟨h, h5⟩ := and2 h
      obtain ⟨h, h4⟩ := and2 h
      obtain ⟨h, h3⟩ := and2 h
      obtain ⟨h1, h2⟩ := and2 h
      cases ci with
      | true => exact (Bool.false_ne_true h1).elim
      | false =>
        cases cj with
        | true => exact (Bool.false_ne_true h2).elim
        | false =>
          have sp := ss_par so (k := 0) (p := default) (k2 := 0) (p2 := default) h5
          have q := h5
          obtain ⟨q, q8⟩ := and2 q
          obtain ⟨q, q7⟩ := and2 q
          obtain ⟨q, q6⟩ := and2 q
          obtain ⟨q, q5⟩ := and2 q
          obtain ⟨q, q4⟩ := and2 q
          obtain ⟨q, q3⟩ := and2 q
          obtain ⟨q1, q2⟩ := and2 q
          refine sS_par so.so.ok.calm so.so.ok.nd (so.so.ix h3) (so.so.ix h4) (fun e => ?_) (by rw [so.so.sc]; exact eqS q1) (by rw [so.so.sc]; exact eqS q2) (okE a so.so h6).1 (okE b so.so h7).1 (star_ok q7) (star_ok q8) (ss_par so h5) sw_tup
          subst e
          have e2 := (eqS h3).symm.trans (eqS h4)
          cases e2
          simp at q4
    · cases h
  | .aug i o m, st, so, h => by
    unfold ckS at h
    split at h
    · obtain ⟨h, h4⟩ := and2 h
      obtain ⟨h, h3⟩ := and2 h
      obtain ⟨h1, h2⟩ := and2 h
      cases eqS h3
      exact sS_aug so.so.ok.nd (so.so.ix h1) (so.lk _ h2).1 (okE m so.so h4).1 (so.fn _ h2)
    · cases h
  | .sub a i m, st, so, h => by
    unfold ckS at h
    split at h
    · obtain ⟨h, h4⟩ := and2 h
      obtain ⟨h, h3⟩ := and2 h
      obtain ⟨h1, h2⟩ := and2 h
      exact sS_sub (okE m so.so h4).1 (okE a so.so h2).1 (okE i so.so h3).1 sw_sub ss_sub rfl (sub_asg h1)
    · cases h
  | .asub a i o m, st, so, h => by
    unfold ckS at h
    split at h
    · obtain ⟨h, h4⟩ := and2 h
      obtain ⟨h, h3⟩ := and2 h
      obtain ⟨h, h2⟩ := and2 h
      obtain ⟨h0, h1⟩ := and2 h
      cases eqS h0
      exact sS_asub (okE a so.so h2).1 (okE i so.so h3).1 (okE m so.so h4).1 (aug_st h1)
    · cases h
  | .att o f m, st, so, h => by
    unfold ckS at h
    split at h
    · obtain ⟨h, h3⟩ := and2 h
      obtain ⟨h1, h2⟩ := and2 h
      cases eqS h1
      exact sS_att so.so.ok (okE m so.so h3).1 (okE o so.so h2).1 sw_att
    · cases h
  | .ex m, st, so, h => by
    unfold ckS at h
    split at h
    · obtain ⟨h1, h2⟩ := and2 h
      exact sS_ex (okE m so.so h2).1 (sw_none h1)
    · cases h
  | .ret m fr, st, so, h => by
    unfold ckS at h
    split at h
    · exact sS_ret (okE m so.so h).1
    · cases h
  | .retc m, st, so, h => by
    unfold ckS at h
    split at h
    · obtain ⟨h1, h2⟩ := and2 h
      exact sS_retc (okF so.so h1 h2)
    · cases h
  | .retn fr, st, so, h => by
    unfold ckS at h
    split at h
    · exact sS_retn
    · cases h
  | .ifs c a b, st, so, h => by
    unfold ckS at h
    split at h
    · obtain ⟨h, h3⟩ := and2 h
      obtain ⟨h1, h2⟩ := and2 h
      exact sS_if (okE c so.so h1).2.1 (okSs a so h2) (okSs b so h3)
    · cases h
  | .whl c b, st, so, h => by
    unfold ckS at h
    split at h
    · obtain ⟨h1, h2⟩ := and2 h
      exact sS_while so.po (okE c so.so h1).2.1 (okSs b so h2)
    · cases h
  | .forr t it b, st, so, h => by
    unfold ckS at h
    split at h
    · obtain ⟨h, h4⟩ := and2 h
      obtain ⟨h, h3⟩ := and2 h
      obtain ⟨h1, h2⟩ := and2 h
      exact sS_for so.po so.so.ok.calm (okIt it so.so h3) (ckTg_ok so.so.ok.calm so.so.N so.so.ok.nd so.lk h1) (okSs b so h4) (set_iter h2)
    · cases h
  | .raise _ _, st, so, h => PS.not fun D σ H ⟨σ, S, hid, w, z⟩ => z
  | .pass, st, so, h => by
    unfold ckS at h
    split at h
    · exact sS_pass
    · cases h
  | .brk, st, so, h => by
    unfold ckS at h
    split at h
    · exact sS_brk
    · cases h
  | .cont, st, so, h => by
    unfold ckS at h
    split at h
    · exact sS_cont
    · cases h
theorem okSs : ∀ (m : Ss) {xs : List Stmt}, TOk T G lvl X sc → ckSs T sc m xs = true → PSs X xs (tSs G X.K m)
  | .nil, [], so, h => sS_nil
  | .nil, _ :: _, so, h => (Bool.false_ne_true h).elim
  | .cons s r, [], so, h => (Bool.false_ne_true h).elim
  | .cons s r, x :: y, so, h => by
    obtain ⟨h1, h2⟩ := and2 (show (ckS T sc s x && ckSs T sc r y) = true from h)
    exact sS_cons (okS s so h1) (okSs r so h2)
end
end
end Li
set_option Elab.async false
set_option linter.all false
set_option maxRecDepth 100000
set_option maxHeartbeats 2000000
/-! LiDef: a def of the program keeps the promise that its text in Li keeps. -/
namespace Li
open PySem L2
def scB (N ps : List Str) (sc : Scope) : Bool :=
  sc.kind == .function && sc.isCoroutine == false && sc.isGenerator == false && decide N.Nodup && N.take ps.length == ps && ps.all (fun x => sc.names.lookup x == some .local || sc.names.lookup x == some .cell) && sc.names.all (fun y => y.2 != .free)
theorem scB_ok {N ps : List Str} {sc : Scope} (h : scB N ps sc = true) : FnScope N ps sc := by
  obtain ⟨h, h7⟩ := and2 h
  obtain ⟨h, h6⟩ := and2 h
  obtain ⟨h, h5⟩ := and2 h
  obtain ⟨h, h4⟩ := and2 h
  obtain ⟨h, h3⟩ := and2 h
  obtain ⟨h1, h2⟩ := and2 h
  refine ⟨eqS h1, eqS h2, eqS h3, of_decide_eq_true h4, eqS h5, fun x hx => ?_, fun y hy e => ?_⟩
  · rcases (Bool.or_eq_true _ _).mp (List.all_eq_true.mp h6 x hx) with q | q
    · exact .inl (eqS q)
    · exact .inr (eqS q)
  · have q := List.all_eq_true.mp h7 y hy
    rw [e] at q
    exact Bool.false_ne_true q
theorem Rvs.at0 {K : PySem.W.Frag} {M : Addr → Prop} {H : Hp} : ∀ {vs : List Val} {xs : List V} {n : Nat} {i : Nat} {v : Val}, Rvs K M H vs xs → (vs.map some ++ List.replicate n none)[i]? = some (some v) → ∃ x, (xs.map some ++ List.replicate n none)[i]? = some (some x) ∧ Rv K M H v x
  | [], xs, n, i, v, h, e => by
    rw [List.map_nil, List.nil_append, List.getElem?_replicate] at e
    split at e <;> cases e
  | u :: vs, xs, n, 0, v, ⟨x, y, ex, h1, h2⟩, e => by
    subst ex
    cases e
    exact ⟨x, rfl, h1⟩
  | u :: vs, xs, n, i + 1, v, ⟨x, y, ex, h1, h2⟩, e => by
    subst ex
    exact Rvs.at0 (vs := vs) (xs := y) (n := n) (i := i) h2 e
theorem renv_start {K : PySem.W.Frag} {M : Addr → Prop} {H : Hp} {N : List Str} {vs : List Val} {xs : List V} (h : Rvs K M H vs xs) : Renv K M H (vs.map some ++ List.replicate (N.length - vs.length) none) (L2.start N xs) := by
  have l := h.length
  unfold L2.start
  rw [l]
  refine ⟨by rw [List.length_append, List.length_append, List.length_map, List.length_map, l, List.length_replicate, List.length_replicate], fun i v e => h.at0 e⟩
theorem fn_li {P : Program} {w : World} {K : PySem.W.Frag} {mg : Str → Option Value} {base : Heap} {T : Tb} {TT : List NdefX.NTab} {D : Nat → Li.G} {A : Addr → Str → Prop} {lvl : Nat} {x qual : Str} {params : Arguments} {body : List Stmt} {scope : Scope} {dvs : List V} {kws : List (Str × V)} {f : Addr} {fd : FuncData} {ps : List Str} {b : Ss} {fr : List Nat} {sp : ISp}
    (F : FunD K x qual params body scope dvs kws f fd) (hnd : ∀ j i sc st, T.ndc j i sc st = false) (hS : scB T.N ps scope = true) (hb : ckSs T scope b body = true) (gok : ∀ g, GOk ⟨P, w, K, mg, base, TT⟩ lvl (T.nm g) (D g)) (att : ∀ C f, A C f → Cls K C ∧ NoAttr K C f) (bl : ∀ x, bnames.contains x = true → mg x = none)
    (hsp : ∀ vs S Q R, vs.length = ps.length → sp.run vs S Q R → evD { D := D, A := A, er := R } b T.N.length fr vs S Q) : FnOk P w K mg base (CX P w) (lvl + 1) f fd ps (toSp K TT ps.length sp) := by
  refine F.ok (scB_ok hS) (fun vs H Q E ⟨vs0, S, hid, hT, hl, r, _⟩ => by rw [← r.length, hl]) fun cdv A' outer s H vs Q E hr ⟨vs0, S, hid, hT, hl, r, rel, run⟩ => ?_
  let G : SX := { c := { D := D, A := A, er := fun ex S' => ∀ cls d H', Ext S H S' H' → Rel K hid S' H' → RExc K (Mset S' hid) H' ex cls d → E cls d H' }, S0 := S, H0 := H, P := fun h => h = hid, ag := fun _ => True, T := TT }
  have : AgT G := ⟨fun _ => trivial⟩
  have sk := scB_ok hS
  refine ⟨tSs G K b, ?_, ?_⟩
  · refine okSs (T := T) (G := G) (lvl := lvl) (sc := scope) b ⟨⟨⟨sk.nd, rfl, hr, gok, ?_, att⟩, rfl, rfl, bl, fun j F z => z.elim, fun j i z => nomatch z⟩, fun _ _ => .inl rfl, sk.kind, ?_, fun j i st z => by rw [hnd] at z; cases z⟩ hb
    · exact passes_call (takes_of rfl rfl rfl rfl) fun cls d σ H1 h => by
        obtain ⟨ex, S', hid', e1, e2, e3, e4, e5⟩ := h
        cases (show hid' = hid from e1)
        exact e5 cls d H1 e2 e3 e4
    · exact passes_of rfl
  · refine ⟨_, S, hid, ⟨rfl, Ext.refl S H, rel, renv_start (N := T.N) r, trivial, hT⟩, ?_⟩
    have z := hsp vs0 S _ _ hl run
    exact evSs_mono b (D := { nx := fun σ S' => frz σ fr .non S' (PoE K hid S H Q), rt := PoE K hid S H Q }) ⟨fun σ2 S2 q σ2' H2 e2 rel2 env2 => by
      obtain ⟨u, S3, q1, q2, q3, q4⟩ := frz_rd (x := .non) q rel2 rfl
      exact q1 .non H2 (e2.trans q2) q3 q4, fun v S2 q v' H2 e2 rel2 r2 => q v' H2 e2 rel2 r2, fun _ _ q => q.elim, fun _ _ q => q.elim⟩ z
/-! ### the module's names -/
theorem GOk.up {m : Mo} {l l' : Nat} (h : l ≤ l') {x : Str} {g : Li.G} (o : GOk m l x g) : GOk m l' x g := by
  cases g with
  | none => exact o
  | val v => exact o
  | fn sp n dfl =>
    obtain ⟨f, fd, ps, k, h1, r⟩ := o
    exact ⟨f, fd, ps, k, by omega, r⟩
  | fnk sp n np ks =>
    obtain ⟨f, fd, ps, k, h1, r⟩ := o
    exact ⟨f, fd, ps, k, by omega, r⟩
  | cls C fz sp n dfl =>
    obtain ⟨f, fd, ps, k, h1, r⟩ := o
    exact ⟨f, fd, ps, k, by omega, r⟩
/-- names and what they are, one behind another -/
def GAll (m : Mo) (l : Nat) : List Str → List Li.G → Prop
  | _, [] => True
  | [], _ :: _ => False
  | x :: xs, g :: gs => GOk m l x g ∧ GAll m l xs gs
theorem GAll.nil {m : Mo} {l : Nat} {xs : List Str} : GAll m l xs [] := by
  cases xs <;> trivial
def tabD (gs : List Li.G) (i : Nat) : Li.G := (gs[i]?).getD .none
theorem GAll.all {m : Mo} {l : Nat} : ∀ {xs : List Str} {gs : List Li.G}, GAll m l xs gs → ∀ i, GOk m l ((xs[i]?).getD (Str.ofString "")) (tabD gs i)
  | [], [], _, i => trivial
  | _ :: _, [], _, i => trivial
  | [], _ :: _, h, i => h.elim
  | x :: xs, g :: gs, h, 0 => h.1
  | x :: xs, g :: gs, h, i + 1 => GAll.all (xs := xs) (gs := gs) h.2 i
theorem GAll.up {m : Mo} {l l' : Nat} (h : l ≤ l') : ∀ {xs : List Str} {gs : List Li.G}, GAll m l xs gs → GAll m l' xs gs
  | [], [], _ => trivial
  | _ :: _, [], _ => trivial
  | [], _ :: _, h => h.elim
  | x :: xs, g :: gs, o => ⟨o.1.up h, GAll.up h (xs := xs) (gs := gs) o.2⟩
theorem GAll.snoc {m : Mo} {l : Nat} {y : Str} {k : Li.G} (o : GOk m l y k) : ∀ {xs : List Str} {gs : List Li.G}, GAll m l xs gs → xs[gs.length]? = some y → GAll m l xs (gs ++ [k])
  | [], [], _, e => by cases e
  | x :: xs, [], _, e => by
    cases e
    exact ⟨o, GAll.nil⟩
  | [], _ :: _, h, e => h.elim
  | x :: xs, g :: gs, h, e => ⟨h.1, GAll.snoc o (xs := xs) (gs := gs) h.2 (by simpa using e)⟩
/-- a def without defaults, as a name of the module -/
theorem gok_fn {m : Mo} {k lvl : Nat} {x y qual : Str} {params : Arguments} {body : List Stmt} {scope : Scope} {kws : List (Str × V)} {f : Addr} {fd : FuncData} {ps : List Str} {sp : ISp} {n : Nat} (hn : ps.length = n) (F : FunD m.K x qual params body scope [] kws f fd)
    (ok : FnOk m.P m.w m.K m.mg m.base (CX m.P m.w) k f fd ps (toSp m.K m.T n sp)) (hk : k ≤ lvl) (hm : m.mg y = some (.ref f))
    (hb : ∀ (kV doc pm : Value) (an : Option Addr) (cdv ct : Value) (us : List Value), us.length = ps.length → bindArgs (PySem.W.fnOf x qual params body scope .none kV doc pm an cdv ct) ⟨us, []⟩ = pure (ps.zip us)) : GOk m lvl y (.fn sp n []) :=
  ⟨f, fd, ps, k, hk, hn, ok, hm, F.kp, fun dn hd => ⟨[], [], F.bindsN hb, .nil, by
    rw [List.drop_nil]
    rfl⟩⟩
end Li
set_option Elab.async false
set_option linter.all false
set_option maxRecDepth 100000
set_option maxHeartbeats 2000000
/-! LiDefN: the body of a def within a def keeps its promise. -/
namespace Li
open PySem L2 NdefX
theorem nloc {N ps fr : List Str} {sc : Scope} (S : NScope N ps fr sc) {x : Str} (h : locB sc x = true) : sc.names.lookup x = some .local := by
  rcases locB_ok h with q | q
  · exact q
  · exact absurd rfl (S.nocell _ (PySem.mem_of_lookup q))
theorem nok_li {P : Program} {w : World} {K : PySem.W.Frag} {mg : Str → Option Value} {base : Heap} {T : Tb} {TT : List NTab} {D : Nat → Li.G} {A : Addr → Str → Prop} {lvl : Nat} {F : NF} {f : Addr} {ps fr : List Str} {b : Ss} {lf : LF} {frz0 : List Nat}
    (hnd : ∀ j i sc st, T.ndc j i sc st = false) (hS : nscB T.N ps fr F.scope = true) (ha : ∀ (doc pm ctv : Value) (us : List Value), us.length = ps.length → bindArgs (F.fd doc pm ctv) ⟨us, []⟩ = pure (ps.zip us)) (hb : ckSs T F.scope b F.body = true) (hn : ps.length = lf.n) (gok : ∀ g, GOk ⟨P, w, K, mg, base, TT⟩ lvl (T.nm g) (D g)) (att : ∀ C f, A C f → Cls K C ∧ NoAttr K C f)
    (bl : ∀ x, bnames.contains x = true → mg x = none) (hsp : ∀ vs S Q R, vs.length = ps.length + fr.length → lf.sp.run vs S Q R → evD { D := D, A := A, er := R } b T.N.length frz0 vs S Q) : NOk P w K mg base (CX P w) (lvl + 1) f F ps fr (toSpN K TT lf) := by
  have sk := nscope_by hS
  refine nok_of (N := T.N) sk ha (fun ws vs H Q E ⟨v0, cs, S, hid, cs', _, h1, _, r, _⟩ => by rw [← r.length, h1, hn]) fun A' outer s H vs ws Q E hr _ _ hw ⟨v0, cs, S, hid, cs', hT, h1, h2, r1, r2, rel, run⟩ => ?_
  subst h2
  rw [List.length_map] at hw
  let G : SX := { c := { D := D, A := A, er := fun ex S' => ∀ cls d H', Ext S H S' H' → Rel K hid S' H' → RExc K (Mset S' hid) H' ex cls d → E cls d H' }, S0 := S, H0 := H, P := fun h => h = hid, ag := fun _ => True, T := TT }
  have : AgT G := ⟨fun _ => trivial⟩
  refine ⟨tSs G K b, ?_, ?_⟩
  · refine okSs (T := T) (G := G) (lvl := lvl) (sc := F.scope) b ⟨⟨⟨sk.nd, rfl, hr, gok, ?_, att⟩, rfl, rfl, bl, fun j F z => z.elim, fun j i z => nomatch z⟩, fun x hx => .inr (nloc sk hx), sk.kind, ?_, fun j i st z => by rw [hnd] at z; cases z⟩ hb
    · exact passes_call (takes_of rfl rfl rfl rfl) fun cls d σ H1 h => by
        obtain ⟨ex, S', hid', e1, e2, e3, e4, e5⟩ := h
        cases (show hid' = hid from e1)
        exact e5 cls d H1 e2 e3 e4
    · exact passes_of rfl
  · have rr : Rvs K (Mset S hid) H (v0 ++ cs) (vs ++ cs') := r1.append r2
    have l1 := r1.length
    have l2 := r2.length
    have st : startF T.N vs (cs'.map some) = L2.start T.N (vs ++ cs') := by
      unfold startF L2.start
      rw [List.map_append, List.append_assoc, List.length_append, List.length_map, Nat.sub_sub]
    refine ⟨_, S, hid, ⟨rfl, Ext.refl S H, rel, by rw [st]; exact renv_start (N := T.N) rr, trivial, hT⟩, ?_⟩
    have z := hsp (v0 ++ cs) S _ _ (by rw [List.length_append, h1, hn, l2, hw]) run
    exact evSs_mono b (D := { nx := fun σ S' => frz σ frz0 .non S' (PoE K hid S H Q), rt := PoE K hid S H Q }) ⟨fun σ2 S2 q σ2' H2 e2 rel2 env2 => by
      obtain ⟨u, S3, q1, q2, q3, q4⟩ := frz_rd (x := .non) q rel2 rfl
      exact q1 .non H2 (e2.trans q2) q3 q4, fun v S2 q v' H2 e2 rel2 r2 => q v' H2 e2 rel2 r2, fun _ _ q => q.elim, fun _ _ q => q.elim⟩ z
end Li
namespace Li
open PySem L2 NdefX
/-- a local def: its names, its parameters, what it captures (and where that stands around it), its text, its promise -/
structure NdT where
  N : List Str
  ps : List Str
  fr : List Str
  cap : List Nat
  b : Ss
  fz : List Nat
  sp : ISp
def argsB (ps : List Str) : Arguments → Bool
  | ⟨[], [⟨x, none, _⟩], none, [], [], none, []⟩ => ps == [x]
  | _ => false
/-- the parts of a local def, checked -/
def ndF (N gn : List Str) (d : NdT) (sc : Scope) (params : Arguments) (body : List Stmt) (scope : Scope) : Bool :=
  ndefB sc scope d.fr && nscB d.N d.ps d.fr scope && argsB d.ps params && ckSs { N := d.N, gn := gn } scope d.b body && (d.cap.map (fun j => N[j]?) == d.fr.map some)
def ndcL (N gn : List Str) (nds : List NdT) (tn : Nat → Nat → Str) (qual : Str) (j i : Nat) (sc : Scope) : Stmt → Bool
  | .FunctionDef name params body [] none [] scope none name2 pos => (name2 == name && N[i]? == some name && locB sc name && tn pos.line pos.col == qual ++ name) && (match nds[j]? with
    | some d => ndF N gn d sc params body scope
    | none => false)
  | _ => false
def lfOf (nds : List NdT) (okp : Nat → NF → Prop) (j : Nat) : LF := match nds[j]? with
  | some d => ⟨okp j, d.ps.length, d.cap, d.sp⟩
  | none => LF.none
/-- the local defs of a def whose frame has the cells cs and the scope sc -/
def okN (N gn : List Str) (nds : List NdT) (sc : Scope) (cs : List (Str × Addr)) (j : Nat) (F : NF) : Prop := match nds[j]? with
  | some d => ndF N gn d sc F.params F.body F.scope = true ∧ F.cl = cloFrom cs F.scope.names []
  | none => False
theorem args_ann {ps : List Str} {params : Arguments} {env : PySem.Env} (h : argsB ps params = true) : params.defaults = [] ∧ params.kw_defaults = [] ∧ annTrees params none env = [] := by
  unfold argsB at h
  split at h
  · exact ⟨rfl, rfl, rfl⟩
  · cases h
/-- what stands ahead of a local def's name -/
def lq (qual : Str) (scope : Scope) : Str := (PyProof.Rows.envOfC qual scope 0 0 .none).qual
theorem fn_liN {P : Program} {w : World} {K : PySem.W.Frag} {mg : Str → Option Value} {base : Heap} {N gn : List Str} {cap : List Nat} {nds : List NdT} {tn : Nat → Nat → Str} {c P0 : Addr} {TT : List NTab} {D : Nat → Li.G} {A : Addr → Str → Prop} {lvl : Nat} {x qual : Str} {params : Arguments} {body : List Stmt} {scope : Scope} {dvs : List V} {kws : List (Str × V)} {f : Addr} {fd : FuncData} {ps : List Str} {b : Ss} {fr : List Nat} {sp : ISp}
    (F : FunD K x qual params body scope dvs kws f fd) (hc : ∀ {oc : Value} {od : Option Addr} {dV kV doc pm : Value} {an : Option Addr} {cdv ct : Value} {osl : Array (Option Value)}, K.lookup f = some ⟨oc, od, .func (PySem.W.fnOf x qual params body scope dV kV doc pm an cdv ct), osl⟩ → cdv = .ref c)
    (TB : LamX.TabB base mg c P0) (hm : (P0, tn) ∈ TT) (hu : ∀ p ∈ TT, p.1 = P0 → p.2 = tn) (hS : scB N ps scope = true) (hb : ckSs { N := N, gn := gn, cap := cap, ndc := ndcL N gn nds tn (lq qual scope) } scope b body = true) (hcap : ∀ d ∈ nds, ∀ i ∈ d.cap, cap.contains i = true)
    (gok : ∀ g, GOk ⟨P, w, K, mg, base, TT⟩ lvl (Tb.nm { N := N, gn := gn } g) (D g)) (att : ∀ C f, A C f → Cls K C ∧ NoAttr K C f) (bl : ∀ x, bnames.contains x = true → mg x = none)
    (hbind : ∀ d ∈ nds, ∀ F : NF, argsB d.ps F.params = true → ∀ (doc pm ctv : Value) (us : List Value), us.length = d.ps.length → bindArgs (F.fd doc pm ctv) ⟨us, []⟩ = pure (d.ps.zip us))
    (hspN : ∀ d ∈ nds, ∀ vs S Q R, vs.length = d.ps.length + d.fr.length → d.sp.run vs S Q R → evD { D := D, A := A, er := R } d.b d.N.length d.fz vs S Q)
    (hsp : ∀ okp vs S Q R, vs.length = ps.length → sp.run vs S Q R → evD { D := D, A := A, er := R, L := lfOf nds okp } b N.length fr vs S Q) : FnOk P w K mg base (CX P w) (lvl + 2) f fd ps (toSp K TT ps.length sp) := by
  obtain ⟨oc, od, dV, kV, doc, pm, an, cdv, ct, osl, rfl, lk, hcd, _, _⟩ := F.ex
  cases hc lk
  refine fn_of lk hcd (scB_ok hS) (fun vs H Q E ⟨vs0, S, hid, _, hl, r, _⟩ => by rw [← r.length, hl]) fun A' outer s H vs Q E hr ⟨vs0, S, hid, hT, hl, r, rel, run⟩ => ?_
  have sk := scB_ok hS
  let X := cxOf (CX P w) P w K mg base N qual scope f (.ref c) A' outer s H E
  let G : SX := { c := { D := D, A := A, er := fun ex S' => ∀ cls d H', Ext S H S' H' → Rel K hid S' H' → RExc K (Mset S' hid) H' ex cls d → E cls d H', L := lfOf nds (okN N gn nds scope X.env.cells) }, S0 := S, H0 := H, P := fun h => h = hid, ag := fun _ => True, T := TT }
  have : AgT G := ⟨fun _ => trivial⟩
  have lok : ∀ j F, (G.c.L j).ok F → LOk X G (lvl + 1) (G.c.L j) F := fun j F hF => by
    have hF : (lfOf nds (okN N gn nds scope X.env.cells) j).ok F := hF
    show LOk X G (lvl + 1) (lfOf nds (okN N gn nds scope X.env.cells) j) F
    unfold lfOf at hF ⊢
    cases hd : nds[j]? with
    | none =>
      rw [hd] at hF
      exact hF.elim
    | some d =>
      rw [hd] at hF
      have hF : okN N gn nds scope X.env.cells j F := hF
      unfold okN at hF
      rw [hd] at hF
      obtain ⟨h, hcl⟩ := hF
      have mem : d ∈ nds := List.mem_of_getElem? hd
      obtain ⟨h, h5⟩ := and2 h
      obtain ⟨h, h4⟩ := and2 h
      obtain ⟨h, h3⟩ := and2 h
      obtain ⟨h1, h2⟩ := and2 h
      have nk : ∀ f, NOk P w K mg base (CX P w) (lvl + 1) f F d.ps d.fr (toSpN K TT ⟨okN N gn nds scope X.env.cells j, d.ps.length, d.cap, d.sp⟩) := fun f =>
        nok_li (T := { N := d.N, gn := gn }) (fun _ _ _ _ => rfl) h2 (hbind d mem F h3) h4 rfl gok att bl (hspN d mem)
      obtain ⟨name, q, pa, bo, sc2, cl, c'⟩ := F
      have hcl : cl = cloFrom X.env.cells sc2.names [] := hcl
      subst hcl
      exact lok_def rfl (Nat.le_refl _) (fun _ => rfl) (ndef_free h1) (ndef_fr h1) (eqS h5) nk
  refine ⟨tSs G K b, ?_, ?_⟩
  · refine okSs (T := { N := N, gn := gn, cap := cap, ndc := ndcL N gn nds tn (lq qual scope) }) (G := G) (lvl := lvl + 1) (sc := scope) b ⟨⟨⟨sk.nd, rfl, hr, fun g => (gok g).up (Nat.le_succ _), ?_, att⟩, rfl, rfl, bl, lok, fun j i hi => ?_⟩, fun _ _ => .inl rfl, sk.kind, ?_, fun j i st z => ?_⟩ hb
    · exact passes_call (takes_of rfl rfl rfl rfl) fun cls d σ H1 h => by
        obtain ⟨ex, S', hid', e1, e2, e3, e4, e5⟩ := h
        cases (show hid' = hid from e1)
        exact e5 cls d H1 e2 e3 e4
    · have hi : i ∈ (lfOf nds (okN N gn nds scope X.env.cells) j).cap := hi
      unfold lfOf at hi
      cases hd : nds[j]? with
      | none =>
        rw [hd] at hi
        exact nomatch hi
      | some d =>
        rw [hd] at hi
        exact hcap d (List.mem_of_getElem? hd) i hi
    · exact passes_of rfl
    · have z : ndcL N gn nds tn (lq qual scope) j i scope st = true := z
      unfold ndcL at z
      split at z
      · rename_i name pa bo sc2 name2 pos
        obtain ⟨z, z5⟩ := and2 z
        obtain ⟨z, z4⟩ := and2 z
        obtain ⟨z, z3⟩ := and2 z
        obtain ⟨z1, z2⟩ := and2 z
        cases eqS z1
        cases hd : nds[j]? with
        | none =>
          rw [hd] at z5
          cases z5
        | some d =>
          rw [hd] at z5
          have z6 := z5
          obtain ⟨h, h5⟩ := and2 z5
          obtain ⟨h, h4⟩ := and2 h
          obtain ⟨h, h3⟩ := and2 h
          obtain ⟨h1, h2⟩ := and2 h
          obtain ⟨a1, a2, a3⟩ := args_ann (env := X.env) h3
          refine sS_ndef (T := TT) TB rfl hm (eq_of_beq (a := tn _ _) (b := lq qual scope ++ _) z4) hu (ndef_free h1) a1 a2 a3 sk.nd (eqS z2) (locB_ok z3) (.inl rfl) rfl fun c' => ?_
          show (lfOf nds (okN N gn nds scope X.env.cells) j).ok _
          unfold lfOf
          rw [hd]
          show okN N gn nds scope X.env.cells j _
          unfold okN
          rw [hd]
          exact ⟨z6, rfl⟩
      · cases z
  · refine ⟨_, S, hid, ⟨rfl, Ext.refl S H, rel, renv_start (N := N) r, trivial, hT⟩, ?_⟩
    have z := hsp (okN N gn nds scope X.env.cells) vs0 S _ _ hl run
    exact evSs_mono b (D := { nx := fun σ S' => frz σ fr .non S' (PoE K hid S H Q), rt := PoE K hid S H Q }) ⟨fun σ2 S2 q σ2' H2 e2 rel2 env2 => by
      obtain ⟨u, S3, q1, q2, q3, q4⟩ := frz_rd (x := .non) q rel2 rfl
      exact q1 .non H2 (e2.trans q2) q3 q4, fun v S2 q v' H2 e2 rel2 r2 => q v' H2 e2 rel2 r2, fun _ _ q => q.elim, fun _ _ q => q.elim⟩ z
end Li
set_option Elab.async false
set_option linter.all false
set_option maxRecDepth 100000
set_option maxHeartbeats 0
namespace L46
open PySem Li L2
def top (i : Nat) : Stmt := (PySem.Challenge.rw_lightshares_k46_whole_none_made_is_neare).prog.main.body.getD i (.Pass ⟨0, 0, 0, 0⟩)
def meth (n : Str) : Stmt → Stmt
  | .ClassDef _ _ _ b _ _ _ _ _ _ _ => (b.find? fun | .FunctionDef x .. => x == n | _ => false).getD (.Pass ⟨0, 0, 0, 0⟩)
  | s => s
def gn0 : List Str := [("" : Str), ("" : Str), ("" : Str), ("" : Str), ("" : Str), ("" : Str), ("" : Str), ("" : Str), ("" : Str), ("" : Str), ("" : Str), ("ZERO" : Str), ("is_whole" : Str), ("share_of" : Str), ("low" : Str), ("is_fraction" : Str), ("from_zero" : Str), ("in_one" : Str), ("add" : Str), ("less" : Str), ("mul" : Str), ("" : Str), ("total" : Str), ("" : Str), ("Shade" : Str), ("check_shade" : Str), ("parts_of" : Str), ("" : Str), ("MOST_EYE" : Str), ("EVEN" : Str), ("is_eye" : Str), ("check_eye" : Str), ("far_by" : Str), ("" : Str), ("" : Str), ("" : Str), ("" : Str), ("" : Str), ("" : Str), ("" : Str)]
def gn1 : List Str := [("" : Str), ("" : Str), ("" : Str), ("" : Str), ("" : Str), ("" : Str), ("" : Str), ("shade_by" : Str), ("" : Str), ("" : Str), ("" : Str), ("" : Str), ("" : Str), ("" : Str), ("" : Str), ("" : Str), ("" : Str), ("" : Str), ("" : Str), ("" : Str), ("" : Str), ("" : Str), ("" : Str), ("" : Str), ("" : Str), ("" : Str), ("" : Str), ("" : Str), ("" : Str), ("" : Str), ("" : Str), ("" : Str), ("" : Str), ("" : Str), ("" : Str), ("" : Str), ("" : Str), ("" : Str), ("" : Str), ("" : Str)]
def gn2 : List Str := [("" : Str), ("" : Str), ("" : Str), ("" : Str), ("" : Str), ("" : Str), ("" : Str), ("" : Str), ("" : Str), ("" : Str), ("" : Str), ("" : Str), ("" : Str), ("" : Str), ("" : Str), ("" : Str), ("" : Str), ("" : Str), ("" : Str), ("" : Str), ("" : Str), ("" : Str), ("" : Str), ("" : Str), ("is_shade" : Str), ("MOST_LIGHTS" : Str), ("MOST_USED" : Str), ("check_lights" : Str), ("gaps" : Str), ("made_by" : Str), ("common_bottom" : Str), ("products_of" : Str), ("size_of" : Str), ("foot_of" : Str), ("is_foot" : Str), ("choices" : Str), ("nearest_by" : Str), ("line_by" : Str), ("make" : Str), ("" : Str)]
def gn3 : List Str := [("far" : Str), ("" : Str), ("" : Str), ("" : Str), ("" : Str), ("" : Str), ("" : Str), ("" : Str), ("" : Str), ("" : Str), ("" : Str), ("" : Str), ("" : Str), ("" : Str), ("" : Str), ("" : Str), ("" : Str), ("" : Str), ("" : Str), ("" : Str), ("" : Str), ("" : Str), ("" : Str), ("" : Str), ("" : Str), ("" : Str), ("" : Str), ("" : Str), ("" : Str), ("" : Str), ("" : Str), ("" : Str), ("" : Str), ("" : Str), ("" : Str), ("" : Str), ("" : Str), ("" : Str), ("" : Str), ("" : Str)]
def gn4 : List Str := [("" : Str), ("" : Str), ("" : Str), ("" : Str), ("" : Str), ("" : Str), ("" : Str), ("" : Str), ("" : Str), ("" : Str), ("" : Str), ("" : Str), ("" : Str), ("" : Str), ("" : Str), ("" : Str), ("" : Str), ("" : Str), ("" : Str), ("" : Str), ("" : Str), ("" : Str), ("" : Str), ("" : Str), ("" : Str), ("" : Str), ("" : Str), ("" : Str), ("" : Str), ("" : Str), ("" : Str), ("" : Str), ("" : Str), ("" : Str), ("" : Str), ("" : Str), ("" : Str), ("" : Str), ("" : Str), ("" : Str)]
def gn5 : List Str := [("" : Str), ("" : Str), ("" : Str), ("" : Str), ("" : Str), ("" : Str), ("" : Str), ("" : Str), ("" : Str), ("" : Str), ("" : Str), ("" : Str), ("" : Str), ("" : Str), ("" : Str), ("" : Str), ("" : Str), ("" : Str), ("" : Str), ("" : Str), ("" : Str), ("" : Str), ("" : Str), ("" : Str), ("" : Str), ("" : Str), ("" : Str), ("" : Str), ("" : Str), ("" : Str), ("" : Str), ("" : Str), ("" : Str), ("" : Str), ("" : Str), ("" : Str), ("" : Str), ("" : Str), ("" : Str), ("" : Str)]
def gn6 : List Str := [("" : Str), ("" : Str), ("" : Str), ("" : Str), ("" : Str), ("" : Str), ("" : Str), ("" : Str), ("" : Str), ("" : Str), ("make" : Str), ("far" : Str), ("" : Str), ("" : Str), ("" : Str), ("" : Str), ("" : Str), ("" : Str), ("" : Str), ("" : Str), ("" : Str), ("" : Str), ("" : Str), ("" : Str), ("" : Str), ("" : Str), ("" : Str), ("" : Str), ("" : Str), ("" : Str), ("" : Str), ("" : Str), ("" : Str), ("" : Str), ("" : Str), ("" : Str), ("" : Str), ("" : Str), ("" : Str), ("" : Str)]
def gn7 : List Str := [("" : Str), ("" : Str), ("" : Str), ("" : Str), ("" : Str), ("" : Str), ("" : Str), ("" : Str), ("" : Str), ("" : Str), ("" : Str), ("" : Str), ("" : Str), ("" : Str), ("" : Str), ("" : Str), ("" : Str), ("" : Str), ("" : Str), ("" : Str), ("_law_cell" : Str), ("_law_purse" : Str), ("_law_pick" : Str), ("_law_low" : Str), ("_law_plus" : Str), ("_law_minus" : Str), ("_law_times" : Str), ("_law_below" : Str), ("_law_plain_share" : Str), ("_law_eye" : Str), ("_law_far" : Str), ("" : Str), ("" : Str), ("" : Str), ("" : Str), ("" : Str), ("" : Str), ("_law_right" : Str), ("law" : Str), ("" : Str)]
def gn8 : List Str := [("" : Str), ("" : Str), ("" : Str), ("" : Str), ("" : Str), ("" : Str), ("" : Str), ("" : Str), ("" : Str), ("" : Str), ("" : Str), ("" : Str), ("" : Str), ("" : Str), ("" : Str), ("" : Str), ("" : Str), ("" : Str), ("" : Str), ("" : Str), ("" : Str), ("" : Str), ("" : Str), ("" : Str), ("" : Str), ("" : Str), ("" : Str), ("" : Str), ("" : Str), ("" : Str), ("" : Str), ("" : Str), ("" : Str), ("" : Str), ("" : Str), ("" : Str), ("" : Str), ("" : Str), ("" : Str), ("_law_made" : Str)]
def gn9 : List Str := [("" : Str), ("" : Str), ("" : Str), ("" : Str), ("" : Str), ("" : Str), ("" : Str), ("" : Str), ("" : Str), ("" : Str), ("" : Str), ("" : Str), ("" : Str), ("" : Str), ("" : Str), ("" : Str), ("" : Str), ("" : Str), ("" : Str), ("" : Str), ("" : Str), ("" : Str), ("" : Str), ("" : Str), ("_law_lights" : Str), ("_law_parts" : Str), ("_law_weighed" : Str), ("_law_wish" : Str), ("_law_shade" : Str), ("" : Str), ("" : Str), ("" : Str), ("" : Str), ("_law_gaps" : Str)]
def gn : List Str := gn0 ++ gn1 ++ gn2 ++ gn3 ++ gn4 ++ gn5 ++ gn6 ++ gn7 ++ gn8 ++ gn9
def nm (g : Nat) : Str := (gn[g]?).getD (Str.ofString "")
abbrev s_is_whole : Stmt := top 7
theorem c_is_whole : ckSs { N := Pt.N_is_whole, gn := gn } (defScope s_is_whole) Pt.b_is_whole (defBody s_is_whole) = true := by kernel_rfl
theorem d_is_whole : scB Pt.N_is_whole Pt.p_is_whole (defScope s_is_whole) = true := by kernel_rfl
abbrev s_share_of : Stmt := top 8
theorem c_share_of : ckSs { N := Pt.N_share_of, gn := gn } (defScope s_share_of) Pt.b_share_of (defBody s_share_of) = true := by kernel_rfl
theorem d_share_of : scB Pt.N_share_of Pt.p_share_of (defScope s_share_of) = true := by kernel_rfl
abbrev s_low : Stmt := top 9
theorem c_low : ckSs { N := Pt.N_low, gn := gn } (defScope s_low) Pt.b_low (defBody s_low) = true := by kernel_rfl
theorem d_low : scB Pt.N_low Pt.p_low (defScope s_low) = true := by kernel_rfl
abbrev s_is_fraction : Stmt := top 10
theorem c_is_fraction : ckSs { N := Pt.N_is_fraction, gn := gn } (defScope s_is_fraction) Pt.b_is_fraction (defBody s_is_fraction) = true := by kernel_rfl
theorem d_is_fraction : scB Pt.N_is_fraction Pt.p_is_fraction (defScope s_is_fraction) = true := by kernel_rfl
abbrev s_from_zero : Stmt := top 11
theorem c_from_zero : ckSs { N := Pt.N_from_zero, gn := gn } (defScope s_from_zero) Pt.b_from_zero (defBody s_from_zero) = true := by kernel_rfl
theorem d_from_zero : scB Pt.N_from_zero Pt.p_from_zero (defScope s_from_zero) = true := by kernel_rfl
abbrev s_in_one : Stmt := top 12
theorem c_in_one : ckSs { N := Pt.N_in_one, gn := gn } (defScope s_in_one) Pt.b_in_one (defBody s_in_one) = true := by kernel_rfl
theorem d_in_one : scB Pt.N_in_one Pt.p_in_one (defScope s_in_one) = true := by kernel_rfl
abbrev s_add : Stmt := top 13
theorem c_add : ckSs { N := Pt.N_add, gn := gn } (defScope s_add) Pt.b_add (defBody s_add) = true := by kernel_rfl
theorem d_add : scB Pt.N_add Pt.p_add (defScope s_add) = true := by kernel_rfl
abbrev s_less : Stmt := top 14
theorem c_less : ckSs { N := Pt.N_less, gn := gn } (defScope s_less) Pt.b_less (defBody s_less) = true := by kernel_rfl
theorem d_less : scB Pt.N_less Pt.p_less (defScope s_less) = true := by kernel_rfl
abbrev s_mul : Stmt := top 15
theorem c_mul : ckSs { N := Pt.N_mul, gn := gn } (defScope s_mul) Pt.b_mul (defBody s_mul) = true := by kernel_rfl
theorem d_mul : scB Pt.N_mul Pt.p_mul (defScope s_mul) = true := by kernel_rfl
abbrev s_total : Stmt := top 16
theorem c_total : ckSs { N := Pt.N_total, gn := gn } (defScope s_total) Pt.b_total (defBody s_total) = true := by kernel_rfl
theorem d_total : scB Pt.N_total Pt.p_total (defScope s_total) = true := by kernel_rfl
abbrev s_Shade.__init__ : Stmt := meth ("__init__" : Str) (top 19)
theorem c_Shade.__init__ : ckSs { N := Pt.N_Shade.__init__, gn := gn } (defScope s_Shade.__init__) Pt.b_Shade.__init__ (defBody s_Shade.__init__) = true := by kernel_rfl
theorem d_Shade.__init__ : scB Pt.N_Shade.__init__ Pt.p_Shade.__init__ (defScope s_Shade.__init__) = true := by kernel_rfl
abbrev s_is_shade : Stmt := top 20
theorem c_is_shade : ckSs { N := Pt.N_is_shade, gn := gn } (defScope s_is_shade) Pt.b_is_shade (defBody s_is_shade) = true := by kernel_rfl
theorem d_is_shade : scB Pt.N_is_shade Pt.p_is_shade (defScope s_is_shade) = true := by kernel_rfl
abbrev s_check_shade : Stmt := top 21
theorem c_check_shade : ckSs { N := Pt.N_check_shade, gn := gn } (defScope s_check_shade) Pt.b_check_shade (defBody s_check_shade) = true := by kernel_rfl
theorem d_check_shade : scB Pt.N_check_shade Pt.p_check_shade (defScope s_check_shade) = true := by kernel_rfl
abbrev s_parts_of : Stmt := top 22
theorem c_parts_of : ckSs { N := Pt.N_parts_of, gn := gn } (defScope s_parts_of) Pt.b_parts_of (defBody s_parts_of) = true := by kernel_rfl
theorem d_parts_of : scB Pt.N_parts_of Pt.p_parts_of (defScope s_parts_of) = true := by kernel_rfl
abbrev s_shade_by : Stmt := top 23
theorem c_shade_by : ckSs { N := Pt.N_shade_by, gn := gn } (defScope s_shade_by) Pt.b_shade_by (defBody s_shade_by) = true := by kernel_rfl
theorem d_shade_by : scB Pt.N_shade_by Pt.p_shade_by (defScope s_shade_by) = true := by kernel_rfl
abbrev s_is_eye : Stmt := top 27
theorem c_is_eye : ckSs { N := Pt.N_is_eye, gn := gn } (defScope s_is_eye) Pt.b_is_eye (defBody s_is_eye) = true := by kernel_rfl
theorem d_is_eye : scB Pt.N_is_eye Pt.p_is_eye (defScope s_is_eye) = true := by kernel_rfl
abbrev s_check_eye : Stmt := top 28
theorem c_check_eye : ckSs { N := Pt.N_check_eye, gn := gn } (defScope s_check_eye) Pt.b_check_eye (defBody s_check_eye) = true := by kernel_rfl
theorem d_check_eye : scB Pt.N_check_eye Pt.p_check_eye (defScope s_check_eye) = true := by kernel_rfl
abbrev s_far_by : Stmt := top 29
def nd_far_by (sp : ISp) : List NdT := [⟨Pt.NN_far_by_part, Pt.np_far_by_part, Pt.nf_far_by_part, Pt.nc_far_by_part, Pt.nb_far_by_part, [], sp⟩]
def tn_far_by : Nat → Nat → Str := fun _ _ => lq ("far_by" : Str) (defScope s_far_by) ++ ("part" : Str)
theorem c_far_by (sp : ISp) : ckSs { N := Pt.N_far_by, gn := gn, cap := Pt.nc_far_by_part, ndc := ndcL Pt.N_far_by gn (nd_far_by sp) tn_far_by (lq ("far_by" : Str) (defScope s_far_by)) } (defScope s_far_by) Pt.b_far_by (defBody s_far_by) = true := by kernel_rfl
theorem d_far_by : scB Pt.N_far_by Pt.p_far_by (defScope s_far_by) = true := by kernel_rfl
abbrev s_far : Stmt := top 30
theorem c_far : ckSs { N := Pt.N_far, gn := gn } (defScope s_far) Pt.b_far (defBody s_far) = true := by kernel_rfl
theorem d_far : scB Pt.N_far Pt.p_far (defScope s_far) = true := by kernel_rfl
abbrev s_check_lights : Stmt := top 34
theorem c_check_lights : ckSs { N := Pt.N_check_lights, gn := gn } (defScope s_check_lights) Pt.b_check_lights (defBody s_check_lights) = true := by kernel_rfl
theorem d_check_lights : scB Pt.N_check_lights Pt.p_check_lights (defScope s_check_lights) = true := by kernel_rfl
abbrev s_gaps : Stmt := top 35
theorem c_gaps : ckSs { N := Pt.N_gaps, gn := gn } (defScope s_gaps) Pt.b_gaps (defBody s_gaps) = true := by kernel_rfl
theorem d_gaps : scB Pt.N_gaps Pt.p_gaps (defScope s_gaps) = true := by kernel_rfl
abbrev s_made_by : Stmt := top 36
theorem c_made_by : ckSs { N := Pt.N_made_by, gn := gn } (defScope s_made_by) Pt.b_made_by (defBody s_made_by) = true := by kernel_rfl
theorem d_made_by : scB Pt.N_made_by Pt.p_made_by (defScope s_made_by) = true := by kernel_rfl
abbrev s_common_bottom : Stmt := top 37
theorem c_common_bottom : ckSs { N := Pt.N_common_bottom, gn := gn } (defScope s_common_bottom) Pt.b_common_bottom (defBody s_common_bottom) = true := by kernel_rfl
theorem d_common_bottom : scB Pt.N_common_bottom Pt.p_common_bottom (defScope s_common_bottom) = true := by kernel_rfl
abbrev s_products_of : Stmt := top 38
def nd_products_of (sp : ISp) : List NdT := [⟨Pt.NN_products_of_whole, Pt.np_products_of_whole, Pt.nf_products_of_whole, Pt.nc_products_of_whole, Pt.nb_products_of_whole, [], sp⟩]
def tn_products_of : Nat → Nat → Str := fun _ _ => lq ("products_of" : Str) (defScope s_products_of) ++ ("whole" : Str)
theorem c_products_of (sp : ISp) : ckSs { N := Pt.N_products_of, gn := gn, cap := Pt.nc_products_of_whole, ndc := ndcL Pt.N_products_of gn (nd_products_of sp) tn_products_of (lq ("products_of" : Str) (defScope s_products_of)) } (defScope s_products_of) Pt.b_products_of (defBody s_products_of) = true := by kernel_rfl
theorem d_products_of : scB Pt.N_products_of Pt.p_products_of (defScope s_products_of) = true := by kernel_rfl
abbrev s_size_of : Stmt := top 39
theorem c_size_of : ckSs { N := Pt.N_size_of, gn := gn } (defScope s_size_of) Pt.b_size_of (defBody s_size_of) = true := by kernel_rfl
theorem d_size_of : scB Pt.N_size_of Pt.p_size_of (defScope s_size_of) = true := by kernel_rfl
abbrev s_foot_of : Stmt := top 40
theorem c_foot_of : ckSs { N := Pt.N_foot_of, gn := gn } (defScope s_foot_of) Pt.b_foot_of (defBody s_foot_of) = true := by kernel_rfl
theorem d_foot_of : scB Pt.N_foot_of Pt.p_foot_of (defScope s_foot_of) = true := by kernel_rfl
abbrev s_is_foot : Stmt := top 41
theorem c_is_foot : ckSs { N := Pt.N_is_foot, gn := gn } (defScope s_is_foot) Pt.b_is_foot (defBody s_is_foot) = true := by kernel_rfl
theorem d_is_foot : scB Pt.N_is_foot Pt.p_is_foot (defScope s_is_foot) = true := by kernel_rfl
abbrev s_choices : Stmt := top 42
theorem c_choices : ckSs { N := Pt.N_choices, gn := gn } (defScope s_choices) Pt.b_choices (defBody s_choices) = true := by kernel_rfl
theorem d_choices : scB Pt.N_choices Pt.p_choices (defScope s_choices) = true := by kernel_rfl
abbrev s_nearest_by : Stmt := top 43
theorem c_nearest_by : ckSs { N := Pt.N_nearest_by, gn := gn } (defScope s_nearest_by) Pt.b_nearest_by (defBody s_nearest_by) = true := by kernel_rfl
theorem d_nearest_by : scB Pt.N_nearest_by Pt.p_nearest_by (defScope s_nearest_by) = true := by kernel_rfl
abbrev s_line_by : Stmt := top 44
theorem c_line_by : ckSs { N := Pt.N_line_by, gn := gn } (defScope s_line_by) Pt.b_line_by (defBody s_line_by) = true := by kernel_rfl
theorem d_line_by : scB Pt.N_line_by Pt.p_line_by (defScope s_line_by) = true := by kernel_rfl
abbrev s_make : Stmt := top 45
theorem c_make : ckSs { N := Pt.N_make, gn := gn } (defScope s_make) Pt.b_make (defBody s_make) = true := by kernel_rfl
theorem d_make : scB Pt.N_make Pt.p_make (defScope s_make) = true := by kernel_rfl
abbrev s__law_cell : Stmt := top 47
theorem c__law_cell : ckSs { N := Lt.N__law_cell, gn := gn } (defScope s__law_cell) Lt.b__law_cell (defBody s__law_cell) = true := by kernel_rfl
theorem d__law_cell : scB Lt.N__law_cell Lt.p__law_cell (defScope s__law_cell) = true := by kernel_rfl
abbrev s__law_purse : Stmt := top 48
theorem c__law_purse : ckSs { N := Lt.N__law_purse, gn := gn } (defScope s__law_purse) Lt.b__law_purse (defBody s__law_purse) = true := by kernel_rfl
theorem d__law_purse : scB Lt.N__law_purse Lt.p__law_purse (defScope s__law_purse) = true := by kernel_rfl
abbrev s__law_pick : Stmt := top 49
theorem c__law_pick : ckSs { N := Lt.N__law_pick, gn := gn } (defScope s__law_pick) Lt.b__law_pick (defBody s__law_pick) = true := by kernel_rfl
theorem d__law_pick : scB Lt.N__law_pick Lt.p__law_pick (defScope s__law_pick) = true := by kernel_rfl
abbrev s__law_low : Stmt := top 50
theorem c__law_low : ckSs { N := Lt.N__law_low, gn := gn } (defScope s__law_low) Lt.b__law_low (defBody s__law_low) = true := by kernel_rfl
theorem d__law_low : scB Lt.N__law_low Lt.p__law_low (defScope s__law_low) = true := by kernel_rfl
abbrev s__law_plus : Stmt := top 51
theorem c__law_plus : ckSs { N := Lt.N__law_plus, gn := gn } (defScope s__law_plus) Lt.b__law_plus (defBody s__law_plus) = true := by kernel_rfl
theorem d__law_plus : scB Lt.N__law_plus Lt.p__law_plus (defScope s__law_plus) = true := by kernel_rfl
abbrev s__law_minus : Stmt := top 52
theorem c__law_minus : ckSs { N := Lt.N__law_minus, gn := gn } (defScope s__law_minus) Lt.b__law_minus (defBody s__law_minus) = true := by kernel_rfl
theorem d__law_minus : scB Lt.N__law_minus Lt.p__law_minus (defScope s__law_minus) = true := by kernel_rfl
abbrev s__law_times : Stmt := top 53
theorem c__law_times : ckSs { N := Lt.N__law_times, gn := gn } (defScope s__law_times) Lt.b__law_times (defBody s__law_times) = true := by kernel_rfl
theorem d__law_times : scB Lt.N__law_times Lt.p__law_times (defScope s__law_times) = true := by kernel_rfl
abbrev s__law_below : Stmt := top 54
theorem c__law_below : ckSs { N := Lt.N__law_below, gn := gn } (defScope s__law_below) Lt.b__law_below (defBody s__law_below) = true := by kernel_rfl
theorem d__law_below : scB Lt.N__law_below Lt.p__law_below (defScope s__law_below) = true := by kernel_rfl
abbrev s__law_plain_share : Stmt := top 55
theorem c__law_plain_share : ckSs { N := Lt.N__law_plain_share, gn := gn } (defScope s__law_plain_share) Lt.b__law_plain_share (defBody s__law_plain_share) = true := by kernel_rfl
theorem d__law_plain_share : scB Lt.N__law_plain_share Lt.p__law_plain_share (defScope s__law_plain_share) = true := by kernel_rfl
abbrev s__law_eye : Stmt := top 56
theorem c__law_eye : ckSs { N := Lt.N__law_eye, gn := gn } (defScope s__law_eye) Lt.b__law_eye (defBody s__law_eye) = true := by kernel_rfl
theorem d__law_eye : scB Lt.N__law_eye Lt.p__law_eye (defScope s__law_eye) = true := by kernel_rfl
abbrev s__law_far : Stmt := top 57
theorem c__law_far : ckSs { N := Lt.N__law_far, gn := gn } (defScope s__law_far) Lt.b__law_far (defBody s__law_far) = true := by kernel_rfl
theorem d__law_far : scB Lt.N__law_far Lt.p__law_far (defScope s__law_far) = true := by kernel_rfl
abbrev s__law_lights : Stmt := top 58
theorem c__law_lights : ckSs { N := Lt.N__law_lights, gn := gn } (defScope s__law_lights) Lt.b__law_lights (defBody s__law_lights) = true := by kernel_rfl
theorem d__law_lights : scB Lt.N__law_lights Lt.p__law_lights (defScope s__law_lights) = true := by kernel_rfl
abbrev s__law_parts : Stmt := top 59
theorem c__law_parts : ckSs { N := Lt.N__law_parts, gn := gn } (defScope s__law_parts) Lt.b__law_parts (defBody s__law_parts) = true := by kernel_rfl
theorem d__law_parts : scB Lt.N__law_parts Lt.p__law_parts (defScope s__law_parts) = true := by kernel_rfl
abbrev s__law_made : Stmt := top 60
theorem c__law_made : ckSs { N := Lt.N__law_made, gn := gn } (defScope s__law_made) Lt.b__law_made (defBody s__law_made) = true := by kernel_rfl
theorem d__law_made : scB Lt.N__law_made Lt.p__law_made (defScope s__law_made) = true := by kernel_rfl
abbrev s__law_weighed : Stmt := top 61
theorem c__law_weighed : ckSs { N := Lt.N__law_weighed, gn := gn } (defScope s__law_weighed) Lt.b__law_weighed (defBody s__law_weighed) = true := by kernel_rfl
theorem d__law_weighed : scB Lt.N__law_weighed Lt.p__law_weighed (defScope s__law_weighed) = true := by kernel_rfl
abbrev s__law_gaps : Stmt := top 62
theorem c__law_gaps : ckSs { N := Lt.N__law_gaps, gn := gn } (defScope s__law_gaps) Lt.b__law_gaps (defBody s__law_gaps) = true := by kernel_rfl
theorem d__law_gaps : scB Lt.N__law_gaps Lt.p__law_gaps (defScope s__law_gaps) = true := by kernel_rfl
abbrev s__law_wish : Stmt := top 63
theorem c__law_wish : ckSs { N := Lt.N__law_wish, gn := gn } (defScope s__law_wish) Lt.b__law_wish (defBody s__law_wish) = true := by kernel_rfl
theorem d__law_wish : scB Lt.N__law_wish Lt.p__law_wish (defScope s__law_wish) = true := by kernel_rfl
abbrev s__law_shade : Stmt := top 64
theorem c__law_shade : ckSs { N := Lt.N__law_shade, gn := gn } (defScope s__law_shade) Lt.b__law_shade (defBody s__law_shade) = true := by kernel_rfl
theorem d__law_shade : scB Lt.N__law_shade Lt.p__law_shade (defScope s__law_shade) = true := by kernel_rfl
abbrev s__law_right : Stmt := top 65
theorem c__law_right : ckSs { N := Lt.N__law_right, gn := gn } (defScope s__law_right) Lt.b__law_right (defBody s__law_right) = true := by kernel_rfl
theorem d__law_right : scB Lt.N__law_right Lt.p__law_right (defScope s__law_right) = true := by kernel_rfl
abbrev s_law : Stmt := top 66
theorem c_law : ckSs { N := L46.N_law, gn := gn } (defScope s_law) L46.b_law (defBody s_law) = true := by kernel_rfl
theorem d_law : scB L46.N_law L46.p_law (defScope s_law) = true := by kernel_rfl
end L46
set_option Elab.async false
set_option linter.all false
set_option maxRecDepth 100000
/-! LiSim: equations by which a text of Li is walked. -/
namespace Li
open PySem
def tabA (l : List (Nat × Li.G)) (i : Nat) : Li.G := (l.lookup i).getD .none
theorem tabA_hit {l : List (Nat × Li.G)} {i : Nat} {g : Li.G} : tabA ((i, g) :: l) i = g := by
  unfold tabA
  rw [List.lookup_cons]
  simp
theorem tabA_miss {l : List (Nat × Li.G)} {i j : Nat} {g : Li.G} (h : (j == i) = false) : tabA ((i, g) :: l) j = tabA l j := by
  unfold tabA
  rw [List.lookup_cons, h]
section
variable {σ : Env} {S : Sto} {v w x y : Val} {Q : Val → Prop} {i j : Int} {n m : Nat}
theorem slotQ_0 : slotQ (some v :: σ) 0 Q = Q v := rfl
theorem slotQ_s {o : Option Val} : slotQ (o :: σ) (n + 1) Q = slotQ σ n Q := by
  unfold slotQ
  rw [List.getElem?_cons_succ]
theorem cloQ_0 {f F} {P : NdefX.NF → Prop} : cloQ (some (.clo f F) :: σ) 0 P = P F := rfl
theorem cloQ_s {o : Option Val} {P : NdefX.NF → Prop} : cloQ (o :: σ) (n + 1) P = cloQ σ n P := by
  unfold cloQ
  rw [List.getElem?_cons_succ]
theorem capQ_nil {P : List Val → Prop} : capQ σ [] P = P [] := rfl
theorem capQ_cons {i : Nat} {r : List Nat} {P : List Val → Prop} : capQ σ (i :: r) P = slotQ σ i fun v => capQ σ r fun vs => P (v :: vs) := rfl
theorem intQ_i {P : Int → Prop} : intQ (.int i) P = P i := rfl
theorem adrQ_a {a : Addr} {P : Addr → Prop} : adrQ (.adr a) P = P a := rfl
theorem lstQ_l {vs : List Val} {P : List Val → Prop} : lstQ (.lst vs) P = P vs := rfl
theorem tupQ_t {vs : List Val} {P : List Val → Prop} : tupQ (.tup vs) P = P vs := rfl
theorem dctQ_d {ks : List L2.Key} {vs : List Val} {P : List L2.Key → List Val → Prop} : dctQ (.dct ks vs) P = P ks vs := rfl
theorem optQ_s {α : Type} {x : α} {P : α → Prop} : optQ (some x) P = P x := rfl
theorem optQ_n {α : Type} {P : α → Prop} : optQ none P = False := rfl
theorem gvalQ_v {P : Val → Prop} : gvalQ (.val v) P = P v := rfl
theorem brV_s {b : Bool} {A B : Prop} : brV (some b) A B = (if b = true then A else B) := by cases b <;> rfl
theorem brV_t {A B : Prop} : brV (some true) A B = A := rfl
theorem brV_f {A B : Prop} : brV (some false) A B = B := rfl
theorem celQ_h {a : Addr} {vs : List Val} {P : List Val → Prop} (h : S a = some (.lst vs)) : celQ S a P = P vs := by
  unfold celQ
  rw [h]
theorem objQ_h {a C : Addr} {fs : List (Str × Val)} {P : Addr → List (Str × Val) → Prop} (h : S a = some (.obj C fs)) : objQ S a P = P C fs := by
  unfold objQ
  rw [h]
theorem asL_l {vs : List Val} : asL S (.lst vs) = some vs := rfl
theorem asL_a {a : Addr} {vs : List Val} (h : S a = some (.lst vs)) : asL S (.adr a) = some vs := by
  show (match S a with
    | some (.lst vs) => some vs
    | _ => none) = _
  rw [h]
theorem truV_b {b : Bool} : truV S (.bl b) = some b := rfl
theorem truV_n : truV S .non = some false := rfl
theorem truV_i : truV S (.int i) = some (i != 0) := rfl
theorem lenV_t {vs : List Val} : lenV S (.tup vs) = some vs.length := rfl
theorem lenV_s {ns : List Int} : lenV S (.scr ns) = some ns.length := rfl
theorem lenV_l {vs : List Val} : lenV S (.lst vs) = some vs.length := rfl
theorem lenV_a {a : Addr} {vs : List Val} (h : S a = some (.lst vs)) : lenV S (.adr a) = some vs.length := by
  show (asL S (.adr a)).map _ = _
  rw [asL_a h]
  rfl
theorem idxV_t {vs : List Val} : idxV S (.tup vs) (.int i) Q = optQ (L2.atI vs i) Q := rfl
theorem idxV_s {ns : List Int} : idxV S (.scr ns) (.int i) Q = optQ (L2.atI (ns.map Val.int) i) Q := rfl
theorem idxV_l {vs : List Val} : idxV S (.lst vs) (.int i) Q = optQ (L2.atI vs i) Q := rfl
theorem idxV_a {a : Addr} {vs : List Val} (h : S a = some (.lst vs)) : idxV S (.adr a) (.int i) Q = optQ (L2.atI vs i) Q := by
  unfold idxV intQ
  show optQ (asL S (.adr a)) _ = _
  rw [asL_a h]
  rfl
theorem atI_nat {α : Type} {vs : List α} {k : Nat} (h : k < vs.length) : L2.atI vs (k : Int) = vs[k]? := by
  unfold L2.atI L2.ixN
  rw [if_pos (by omega), if_pos (by omega)]
  simp
theorem atI_0 {α : Type} {a : α} {r : List α} : L2.atI (a :: r) 0 = some a := atI_nat (k := 0) (by simp)
theorem atI_1 {α : Type} {a b : α} {r : List α} : L2.atI (a :: b :: r) 1 = some b := atI_nat (k := 1) (by simp)
theorem atI_2 {α : Type} {a b c : α} {r : List α} : L2.atI (a :: b :: c :: r) 2 = some c := atI_nat (k := 2) (by simp)
theorem atI_3 {α : Type} {a b c d : α} {r : List α} : L2.atI (a :: b :: c :: d :: r) 3 = some d := atI_nat (k := 3) (by simp)
theorem bin_add : binV S .Add (.int i) (.int j) Q = Q (.int (i + j)) := rfl
theorem bin_sub : binV S .Sub (.int i) (.int j) Q = Q (.int (i - j)) := by
  unfold binV int2
  simp
theorem bin_mul : binV S .Mult (.int i) (.int j) Q = (L2.CMulX i j ∧ Q (.int (i * j))) := rfl
theorem bin_div : binV S .FloorDiv (.int i) (.int j) Q = (L2.CDivW i j ∧ Q (.int (i / j))) := rfl
theorem bin_mod : binV S .Mod (.int i) (.int j) Q = (0 < j ∧ Q (.int (i % j))) := rfl
theorem bin_pow : binV S .Pow (.int i) (.int j) Q = (L2.CPow i j ∧ Q (.int (i ^ j.toNat))) := rfl
theorem bin_shl : binV S .LShift (.int i) (.int j) Q = (L2.CPow i j ∧ Q (.int (i * 2 ^ j.toNat))) := rfl
theorem bin_shr : binV S .RShift (.int i) (.int j) Q = (0 ≤ j ∧ Q (.int (i / 2 ^ j.toNat))) := rfl
theorem bin_and : binV S .BitAnd (.int i) (.int j) Q = Q (.int (Builtin.bitAnd i j)) := by
  unfold binV int2
  simp
theorem bin_addL {a b : List Val} : binV S .Add (.lst a) (.lst b) Q = (a.length + b.length ≤ sizeLine ∧ Q (.lst (a ++ b))) := rfl
theorem bin_addLA {a : List Val} {p : Addr} {b : List Val} (h : S p = some (.lst b)) : binV S .Add (.lst a) (.adr p) Q = (a.length + b.length ≤ sizeLine ∧ Q (.lst (a ++ b))) := by
  show optQ (asL S (.lst a)) (fun a => optQ (asL S (.adr p)) fun b => a.length + b.length ≤ sizeLine ∧ Q (.lst (a ++ b))) = _
  rw [asL_l, optQ_s, asL_a h, optQ_s]
theorem bin_addT {a b : List Val} : binV S .Add (.tup a) (.tup b) Q = (a.length + b.length ≤ sizeLine ∧ Q (.tup (a ++ b))) := rfl
theorem aug_add : augV .Add (.int i) (.int j) Q = Q (.int (i + j)) := by
  unfold augV int2
  simp
theorem aug_sub : augV .Sub (.int i) (.int j) Q = Q (.int (i - j)) := by
  unfold augV int2
  simp
theorem aug_mul : augV .Mult (.int i) (.int j) Q = (L2.CMulX i j ∧ Q (.int (i * j))) := rfl
variable {P : Bool → Prop}
theorem cmp_lt : cmpV S .Lt (.int i) (.int j) P = P (decide (i < j)) := rfl
theorem cmp_le : cmpV S .LtE (.int i) (.int j) P = P (decide (i ≤ j)) := rfl
theorem cmp_gt : cmpV S .Gt (.int i) (.int j) P = P (decide (j < i)) := rfl
theorem cmp_ge : cmpV S .GtE (.int i) (.int j) P = P (decide (j ≤ i)) := rfl
theorem cmp_is : cmpV S .Is x .non P = P (isNon x) := by
  unfold cmpV
  show (isNon .non = true ∧ P (isNon x)) = _
  simp [isNon]
theorem cmp_isnt : cmpV S .IsNot x .non P = P (!isNon x) := by
  unfold cmpV
  show (isNon .non = true ∧ P (!isNon x)) = _
  simp [isNon]
theorem eqv_int : PyData.eqv (.int i) (.int j) = decide (i = j) := by
  simp [PyData.eqv]
  rfl
theorem cmp_eq : cmpV S .Eq (.int i) (.int j) P = P (decide (i = j)) := by
  show (SeqAt.shaped _ = true ∧ SeqAt.shaped _ = true ∧ P (id (PyData.eqv (.int i) (.int j)))) = _
  rw [eqv_int]
  simp [SeqAt.shaped, PyData.canLay0, PyData.depth]
theorem cmp_ne : cmpV S .NotEq (.int i) (.int j) P = P (!decide (i = j)) := by
  show (SeqAt.shaped _ = true ∧ SeqAt.shaped _ = true ∧ P (not (PyData.eqv (.int i) (.int j)))) = _
  rw [eqv_int]
  simp [SeqAt.shaped, PyData.canLay0, PyData.depth]
theorem tst_e {R : Bool → Sto → Prop} : tst R v S = optQ (truV S v) fun b => R b S := rfl
theorem wipe_nil : wipe σ [] = σ := rfl
theorem wipe_cons {l : List Nat} : wipe σ (n :: l) = (wipe σ l).set n none := rfl
theorem asg_one {k : Env → Prop} : asg (.one n) v σ k = k (σ.set n (some v)) := rfl
theorem asg_many {l : List Nat} {vs : List Val} {k : Env → Prop} : asg (.many l) (.tup vs) σ k = asgs l vs σ k := rfl
theorem asgs_nil {k : Env → Prop} : asgs [] [] σ k = k σ := rfl
theorem asgs_cons {l : List Nat} {vs : List Val} {k : Env → Prop} : asgs (n :: l) (v :: vs) σ k = asgs l vs (σ.set n (some v)) k := rfl
theorem seqV_t {vs : List Val} : seqV S (.tup vs) = some vs := rfl
theorem seqV_s {ns : List Int} : seqV S (.scr ns) = some (ns.map Val.int) := rfl
theorem seqV_l {vs : List Val} : seqV S (.lst vs) = some vs := rfl
theorem seqV_a {a : Addr} {vs : List Val} (h : S a = some (.lst vs)) : seqV S (.adr a) = some vs := asL_a h
theorem chkV_t {vs : List Val} : chkV S (.tup vs) = fun _ => True := rfl
theorem chkV_l {vs : List Val} : chkV S (.lst vs) = fun _ => True := rfl
theorem chkV_s {vs : List Int} : chkV S (.scr vs) = fun _ => True := rfl
theorem chkV_a {a : Addr} : chkV S (.adr a) = fun S' => S' a = S a := rfl
theorem callG_fn {sp : ISp} {k : Nat} {dfl vs : List Val} {dn : Nat} {R : VQ} {er : EQ} : callG (.fn sp k dfl) vs dn S R er = ((vs ++ dfl.drop (dfl.length - dn)).length = k ∧ sp.run (vs ++ dfl.drop (dfl.length - dn)) S R er) := rfl
theorem isCal_fn {sp : ISp} {k : Nat} {dfl : List Val} : isCal (.fn sp k dfl) = True := rfl
theorem isCal_cls {C : Addr} {fz : Bool} {sp : ISp} {k : Nat} {dfl : List Val} : isCal (.cls C fz sp k dfl) = True := rfl
theorem isCalk_fn {sp : ISp} {k np : Nat} {ks ks' : List Str} : isCalk (.fnk sp k np ks) ks' = (ks' = ks) := rfl
theorem callK_fn {sp : ISp} {k np : Nat} {ks : List Str} {vs ws : List Val} {R : VQ} {er : EQ} : callK (.fnk sp k np ks) vs ws S R er = (vs.length = np ∧ ws.length = ks.length ∧ (vs ++ ws).length = k ∧ sp.run (vs ++ ws) S R er) := rfl
theorem frz_nil {R : VQ} : frz σ [] v S R = R v S := rfl
theorem frz_cons {l : List Nat} {R : VQ} : frz σ (n :: l) v S R = frz σ l (frz1 (cellOf σ S n) v S).1 (frz1 (cellOf σ S n) v S).2 R := rfl
theorem compL_nil {step : Val → Sto → (Option Val → Sto → Prop) → Prop} {chk : Sto → Prop} {acc : List Val} {R : List Val → Sto → Prop} : compL step chk [] acc S R = (chk S ∧ R acc S) := rfl
theorem compL_cons {step : Val → Sto → (Option Val → Sto → Prop) → Prop} {chk : Sto → Prop} {r acc : List Val} {R : List Val → Sto → Prop} : compL step chk (v :: r) acc S R = (chk S ∧ step v S fun o S' => match o with
    | some y => acc.length < sizeLine ∧ compL step chk r (acc ++ [y]) S' R
    | none => compL step chk r acc S' R) := rfl
theorem forL_nil {step : Val → DE → Env → Sto → Prop} {chk : Sto → Prop} {D : DE} : forL step chk [] D σ S = (chk S ∧ D.nx σ S) := rfl
theorem forL_cons {step : Val → DE → Env → Sto → Prop} {chk : Sto → Prop} {D : DE} {r : List Val} : forL step chk (v :: r) D σ S = (chk S ∧ step v { D with nx := forL step chk r D, ct := forL step chk r D, bk := D.nx } σ S) := rfl
theorem puSp_run {α : Type} {enc : α → List Val} {pre : α → Prop} {res : α → Val} {vs : List Val} {R : VQ} {er : EQ} : (puSp enc pre res).run vs S R er = ∃ a, vs = enc a ∧ pre a ∧ R (res a) S := rfl
theorem rng0 : rngV 0 (0 : Int).toNat = [] := rfl
theorem rng1n : rngV 0 (1 : Int).toNat = [.int 0] := rfl
theorem r62_0 : (-2 ^ 62 ≤ (0 : Int) ∧ (0 : Int) < 2 ^ 62) = True := eq_true (by decide)
theorem r62_1 : (-2 ^ 62 ≤ (1 : Int) ∧ (1 : Int) < 2 ^ 62) = True := eq_true (by decide)
theorem r62_2 : (-2 ^ 62 ≤ (2 : Int) ∧ (2 : Int) < 2 ^ 62) = True := eq_true (by decide)
theorem r62_3 : (-2 ^ 62 ≤ (3 : Int) ∧ (3 : Int) < 2 ^ 62) = True := eq_true (by decide)
theorem rng3 : rngV 0 (3 : Int).toNat = [.int 0, .int 1, .int 2] := rfl
theorem rng2 : rngV 0 (2 : Int).toNat = [.int 0, .int 1] := rfl
theorem bf_len {D : Nat → Li.G} : bfV D .len [x] S Q = optQ (lenV S x) fun n => Q (.int n) := rfl
theorem bf_abs {D : Nat → Li.G} : bfV D .abs [.int i] S Q = Q (.int (if i < 0 then -i else i)) := rfl
theorem bf_int {D : Nat → Li.G} : bfV D .int [.int i] S Q = Q (.int i) := rfl
theorem bf_intb {D : Nat → Li.G} {b : Bool} : bfV D .int [.bl b] S Q = Q (.int (if b = true then 1 else 0)) := rfl
theorem bf_tupT {D : Nat → Li.G} {vs : List Val} : bfV D .tuple [.tup vs] S Q = Q (.tup vs) := rfl
theorem bf_tupL {D : Nat → Li.G} {vs : List Val} : bfV D .tuple [.lst vs] S Q = Q (.tup vs) := rfl
theorem bf_tupA {D : Nat → Li.G} {a : Addr} {vs : List Val} (h : S a = some (.lst vs)) : bfV D .tuple [.adr a] S Q = Q (.tup vs) := by
  show optQ (asL S (.adr a)) _ = _
  rw [asL_a h]
  rfl
theorem bf_listL {D : Nat → Li.G} {vs : List Val} : bfV D .list [.lst vs] S Q = Q (.lst vs) := rfl
theorem bf_listT {D : Nat → Li.G} {vs : List Val} : bfV D .list [.tup vs] S Q = Q (.lst vs) := rfl
theorem asInts_map {ns : List Int} : asInts (ns.map Val.int) = some ns := by
  induction ns with
  | nil => rfl
  | cons a r ih =>
    rw [List.map_cons]
    show (asInts (r.map Val.int)).map (a :: ·) = _
    rw [ih]
    rfl
theorem asBools_map {ns : List Bool} : asBools (ns.map Val.bl) = some ns := by
  induction ns with
  | nil => rfl
  | cons a r ih =>
    rw [List.map_cons]
    show (asBools (r.map Val.bl)).map (a :: ·) = _
    rw [ih]
    rfl
theorem bf_sumL {D : Nat → Li.G} {ns : List Int} : bfV D .sum [.lst (ns.map Val.int)] S Q = Q (.int ns.sum) := by
  show optQ ((asL S (.lst (ns.map Val.int))).bind asInts) _ = _
  rw [asL_l]
  show optQ (asInts (ns.map Val.int)) _ = _
  rw [asInts_map]
  rfl
theorem bf_sumA {D : Nat → Li.G} {a : Addr} {ns : List Int} (h : S a = some (.lst (ns.map Val.int))) : bfV D .sum [.adr a] S Q = Q (.int ns.sum) := by
  show optQ ((asL S (.adr a)).bind asInts) _ = _
  rw [asL_a h]
  show optQ (asInts (ns.map Val.int)) _ = _
  rw [asInts_map]
  rfl
theorem bf_min2 {D : Nat → Li.G} : bfV D .min [.int i, .int j] S Q = Q (.int (if j < i then j else i)) := rfl
theorem bf_max2 {D : Nat → Li.G} : bfV D .max [.int i, .int j] S Q = Q (.int (if i < j then j else i)) := rfl
theorem bf_minL {D : Nat → Li.G} {ns : List Int} : bfV D .min [.lst (ns.map Val.int)] S Q = (0 < ns.length ∧ ∀ m, m ∈ ns → (∀ y ∈ ns, m ≤ y) → Q (.int m)) := by
  show optQ ((asL S (.lst (ns.map Val.int))).bind asInts) _ = _
  rw [asL_l]
  show optQ (asInts (ns.map Val.int)) _ = _
  rw [asInts_map]
  rfl
theorem bf_allL {D : Nat → Li.G} {ns : List Bool} : bfV D .all [.lst (ns.map Val.bl)] S Q = Q (.bl (ns.all id)) := by
  show optQ ((asL S (.lst (ns.map Val.bl))).bind asBools) _ = _
  rw [asL_l]
  show optQ (asBools (ns.map Val.bl)) _ = _
  rw [asBools_map]
  rfl
theorem bf_anyL {D : Nat → Li.G} {ns : List Bool} : bfV D .any [.lst (ns.map Val.bl)] S Q = Q (.bl (ns.any id)) := by
  show optQ ((asL S (.lst (ns.map Val.bl))).bind asBools) _ = _
  rw [asL_l]
  show optQ (asBools (ns.map Val.bl)) _ = _
  rw [asBools_map]
  rfl
theorem bf_isi {D : Nat → Li.G} {t : Ty} : bfV D (.isi t) [x] S Q = optQ (isiV D S t x) fun b => Q (.bl b) := rfl
theorem slc_l {vs : List Val} {lo hi : Option Int} : slcV S (.lst vs) lo hi Q = Q (.lst (cut vs lo hi)) := rfl
theorem slc_t {vs : List Val} {lo hi : Option Int} : slcV S (.tup vs) lo hi Q = Q (.tup (cut vs lo hi)) := rfl
theorem slc_s {ns : List Int} {lo hi : Option Int} : slcV S (.scr ns) lo hi Q = Q (.lst (cut (ns.map Val.int) lo hi)) := rfl
theorem fld_i {A : Addr → Str → Prop} {C : Addr} {f : Str} {ns : List Str} {vs : List Val} : fldV A S f Q (.ins C ns vs) = (A C f ∧ optQ ((ns.zip vs).lookup f) Q) := rfl
end
theorem isi_tt {D : Nat → Li.G} {S : Sto} {vs : List Val} : isiV D S .tup (.tup vs) = some true := rfl
theorem isi_ti {D : Nat → Li.G} {S : Sto} {i : Int} : isiV D S .tup (.int i) = some false := rfl
theorem isi_ii {D : Nat → Li.G} {S : Sto} {i : Int} : isiV D S .int (.int i) = some true := rfl
theorem isi_it {D : Nat → Li.G} {S : Sto} {vs : List Val} : isiV D S .int (.tup vs) = some false := rfl
theorem isi_ib {D : Nat → Li.G} {S : Sto} {b : Bool} : isiV D S .int (.bl b) = some true := rfl
theorem isi_bi {D : Nat → Li.G} {S : Sto} {i : Int} : isiV D S .bool (.int i) = some false := rfl
theorem isi_bb {D : Nat → Li.G} {S : Sto} {b : Bool} : isiV D S .bool (.bl b) = some true := rfl
theorem isi_ss {D : Nat → Li.G} {S : Sto} {b : Str} : isiV D S .str (.str b) = some true := rfl
theorem isi_c {D : Nat → Li.G} {S : Sto} {g : Nat} {C : Addr} {ns : List Str} {vs : List Val} {fz : Bool} {sp : ISp} {n : Nat} {dfl : List Val} (h : D g = .cls C fz sp n dfl) : isiV D S (.cls g) (.ins C ns vs) = some true := by
  show isiC (D g) S _ = _
  rw [h]
  unfold isiC
  show (insA S (.ins C ns vs)).bind _ = _
  show (if C = C then some true else none) = _
  rw [if_pos rfl]
theorem compL_c1 {step : Val → Sto → (Option Val → Sto → Prop) → Prop} {chk : Sto → Prop} {S : Sto} {v : Val} {r acc : List Val} {R : List Val → Sto → Prop} : compL step chk (v :: r) acc S R = (chk S ∧ step v S fun o S' => match o with
    | some y => acc.length < sizeLine ∧ compL step chk r (acc ++ [y]) S' R
    | none => compL step chk r acc S' R) := rfl
theorem natI_0 : ((0 : Nat) : Int) = 0 := rfl
theorem natI_1 : ((1 : Nat) : Int) = 1 := rfl
theorem natI_2 : ((2 : Nat) : Int) = 2 := rfl
theorem natI_3 : ((3 : Nat) : Int) = 3 := rfl
theorem natI_4 : ((4 : Nat) : Int) = 4 := rfl
theorem natI_5 : ((5 : Nat) : Int) = 5 := rfl
theorem natI_6 : ((6 : Nat) : Int) = 6 := rfl
theorem natI_7 : ((7 : Nat) : Int) = 7 := rfl
theorem celQ_set {S : Sto} {a : Addr} {vs : List Val} {P : List Val → Prop} : celQ (S.set a (.lst vs)) a P = P vs := celQ_h Sto.set_same
theorem idxV_set {S : Sto} {a : Addr} {vs : List Val} {i : Int} {Q : Val → Prop} : idxV (S.set a (.lst vs)) (.adr a) (.int i) Q = optQ (L2.atI vs i) Q := idxV_a Sto.set_same
theorem ixN_30 : L2.ixN 3 0 = some 0 := by decide
theorem ixN_31 : L2.ixN 3 1 = some 1 := by decide
theorem ixN_32 : L2.ixN 3 2 = some 2 := by decide
theorem enumV_n {i : Nat} : enumV i [] = [] := rfl
theorem enumV_c {i : Nat} {v : Val} {r : List Val} : enumV i (v :: r) = .tup [.int i, v] :: enumV (i + 1) r := rfl
theorem zipV_n {bs : List Val} : zipV [] bs = [] := rfl
theorem zipV_c {a b : Val} {as bs : List Val} : zipV (a :: as) (b :: bs) = .tup [a, b] :: zipV as bs := rfl
theorem objQ_set {S : Sto} {a C : Addr} {fs : List (Str × Val)} {P : Addr → List (Str × Val) → Prop} : objQ (S.set a (.obj C fs)) a P = P C fs := objQ_h Sto.set_same
theorem isNon_n : isNon .non = true := rfl
theorem isNon_t {vs : List Val} : isNon (.tup vs) = false := rfl
theorem isNon_i {C : Addr} {ns : List Str} {vs : List Val} : isNon (.ins C ns vs) = false := rfl
section
variable {σ : Env} {S : Sto} {a : Addr} {vs us : List Val} {v w : Val} {i n : Nat} {Q : Val → Prop}
theorem setC_l {k : Env → Sto → Prop} : setC i (.lst vs) σ S k = ∀ a, S a = none → k (σ.set i (some (.adr a))) ((dropC σ S i).set a (.lst vs)) := rfl
theorem dropC_n : dropC (none :: σ) S 0 = S := rfl
theorem dropC_s {o : Option Val} : dropC (o :: σ) S (n + 1) = dropC σ S n := by
  unfold dropC
  rw [List.getElem?_cons_succ]
theorem dropC_a : dropC (some (.adr a) :: σ) (S.set a (.lst vs)) 0 = (S.set a (.lst vs)).del a := by
  show (match (S.set a (.lst vs)) a with
    | some (.lst _) => (S.set a (.lst vs)).del a
    | _ => S.set a (.lst vs)) = _
  rw [Sto.set_same]
theorem cellOf_0 : cellOf (some (.adr a) :: σ) (S.set a (.lst vs)) 0 = some (a, vs) := by
  show (match (S.set a (.lst vs)) a with
    | some (.lst vs) => some (a, vs)
    | _ => none) = _
  rw [Sto.set_same]
theorem cellOf_s {o : Option Val} : cellOf (o :: σ) S (n + 1) = cellOf σ S n := by
  unfold cellOf
  rw [List.getElem?_cons_succ]
theorem cellOf_n : cellOf (none :: σ) S 0 = none := rfl
theorem frz1_s : frz1 (some (a, vs)) v S = (sbst a (.lst vs) v, S.del a) := rfl
theorem frz1_n : frz1 none v S = (v, S) := rfl
theorem sbst_t : sbst a w (.tup vs) = .tup (sbsts a w vs) := by
  rw [sbst]
theorem sbst_l : sbst a w (.lst vs) = .lst (sbsts a w vs) := by
  rw [sbst]
theorem sbst_i {j : Int} : sbst a w (.int j) = .int j := by
  rw [sbst] <;> intros <;> simp_all
theorem sbst_b {j : Bool} : sbst a w (.bl j) = .bl j := by
  rw [sbst] <;> intros <;> simp_all
theorem sbst_non : sbst a w .non = .non := by
  rw [sbst] <;> intros <;> simp_all
theorem sbst_str {x : Str} : sbst a w (.str x) = .str x := by
  rw [sbst] <;> intros <;> simp_all
theorem sbst_a : sbst a w (.adr a) = w := by
  rw [sbst, if_pos rfl]
theorem sbsts_n : sbsts a w [] = [] := by
  rw [sbsts]
theorem sbsts_c : sbsts a w (v :: vs) = sbst a w v :: sbsts a w vs := by
  rw [sbsts]
theorem sbsts_map {α : Type} {f : α → Val} {xs : List α} (h : ∀ x, sbst a w (f x) = f x) : sbsts a w (xs.map f) = xs.map f := by
  induction xs with
  | nil => exact sbsts_n
  | cons x r ih => rw [List.map_cons, sbsts_c, h, ih]
theorem bin_addLA_set {us : List Val} : binV (S.set a (.lst vs)) .Add (.lst us) (.adr a) Q = (us.length + vs.length ≤ sizeLine ∧ Q (.lst (us ++ vs))) := bin_addLA Sto.set_same
theorem asL_set : asL (S.set a (.lst vs)) (.adr a) = some vs := asL_a Sto.set_same
theorem lenV_set : lenV (S.set a (.lst vs)) (.adr a) = some vs.length := lenV_a Sto.set_same
theorem seqV_set : seqV (S.set a (.lst vs)) (.adr a) = some vs := asL_set
theorem bf_tupA_set {D : Nat → Li.G} : bfV D .tuple [.adr a] (S.set a (.lst vs)) Q = Q (.tup vs) := bf_tupA Sto.set_same
theorem bmP_app {x : Val} : bmP .append x S = adrQ x fun a => celQ S a fun _ => True := rfl
theorem bmV_app {x v : Val} {R : VQ} : bmV .append x [v] S R = adrQ x fun a => celQ S a fun us => us.length < sizeLine ∧ R .non (S.set a (.lst (us ++ [v]))) := rfl
theorem bf_sum_set {D : Nat → Li.G} : bfV D .sum [.adr a] (S.set a (.lst vs)) Q = optQ (asInts vs) fun ns => Q (.int ns.sum) := by
  show optQ ((asL (S.set a (.lst vs)) (.adr a)).bind asInts) _ = _
  rw [asL_set]
  rfl
theorem bf_sum_l {D : Nat → Li.G} : bfV D .sum [.lst vs] S Q = optQ (asInts vs) fun ns => Q (.int ns.sum) := rfl
theorem asInts_n : asInts [] = some [] := rfl
theorem asInts_c {j : Int} {r : List Val} : asInts (.int j :: r) = (asInts r).map (j :: ·) := rfl
end
theorem szl_0 : (0 < sizeLine) = True := eq_true (by decide)
theorem szl_1 : (1 < sizeLine) = True := eq_true (by decide)
theorem szl_2 : (2 < sizeLine) = True := eq_true (by decide)
theorem szl_3 : (3 < sizeLine) = True := eq_true (by decide)
theorem szl_4 : (4 < sizeLine) = True := eq_true (by decide)
theorem szl_5 : (5 < sizeLine) = True := eq_true (by decide)
theorem szl_6 : (6 < sizeLine) = True := eq_true (by decide)
theorem szl_7 : (7 < sizeLine) = True := eq_true (by decide)
theorem sz_0 : (0 ≤ sizeLine) = True := eq_true (by decide)
theorem sz_1 : (1 ≤ sizeLine) = True := eq_true (by decide)
theorem sz_2 : (2 ≤ sizeLine) = True := eq_true (by decide)
theorem sz_3 : (3 ≤ sizeLine) = True := eq_true (by decide)
theorem sz_4 : (4 ≤ sizeLine) = True := eq_true (by decide)
theorem sz_5 : (5 ≤ sizeLine) = True := eq_true (by decide)
theorem sz_6 : (6 ≤ sizeLine) = True := eq_true (by decide)
theorem sz_7 : (7 ≤ sizeLine) = True := eq_true (by decide)
/-! ### loops -/
/-- a comprehension whose parts leave the store alone -/
theorem compL_map {step : Val → Sto → (Option Val → Sto → Prop) → Prop} {chk : Sto → Prop} {S : Sto} {f : Val → Val} : ∀ {vs acc : List Val} {R : List Val → Sto → Prop}, chk S → acc.length + vs.length ≤ sizeLine → (∀ v ∈ vs, ∀ k : Option Val → Sto → Prop, k (some (f v)) S → step v S k) → R (acc ++ vs.map f) S → compL step chk vs acc S R
  | [], acc, R, hc, hl, hs, hR => ⟨hc, by simpa using hR⟩
  | v :: r, acc, R, hc, hl, hs, hR => by
    rw [List.length_cons] at hl
    refine ⟨hc, hs v List.mem_cons_self _ ⟨by omega, compL_map (f := f) hc (by rw [List.length_append]; simp; omega) (fun u hu => hs u (List.mem_cons_of_mem _ hu)) ?_⟩⟩
    rw [List.append_assoc]
    simpa using hR
/-- .. with an if -/
theorem compL_filter {step : Val → Sto → (Option Val → Sto → Prop) → Prop} {chk : Sto → Prop} {S : Sto} {f : Val → Option Val} : ∀ {vs acc : List Val} {R : List Val → Sto → Prop}, chk S → acc.length + vs.length ≤ sizeLine → (∀ v ∈ vs, ∀ k : Option Val → Sto → Prop, k (f v) S → step v S k) → R (acc ++ vs.filterMap f) S → compL step chk vs acc S R
  | [], acc, R, hc, hl, hs, hR => ⟨hc, by simpa using hR⟩
  | v :: r, acc, R, hc, hl, hs, hR => by
    rw [List.length_cons] at hl
    refine ⟨hc, hs v List.mem_cons_self _ ?_⟩
    cases e : f v with
    | some y =>
      refine ⟨by omega, compL_filter (f := f) hc (by rw [List.length_append]; simp; omega) (fun u hu => hs u (List.mem_cons_of_mem _ hu)) ?_⟩
      rw [List.filterMap_cons, e] at hR
      rw [List.append_assoc]
      exact hR
    | none =>
      refine compL_filter (f := f) hc (by omega) (fun u hu => hs u (List.mem_cons_of_mem _ hu)) ?_
      rw [List.filterMap_cons, e] at hR
      exact hR
/-- .. over things of one kind -/
theorem compL_mapA {α : Type} {g : α → Val} {step : Val → Sto → (Option Val → Sto → Prop) → Prop} {chk : Sto → Prop} {S : Sto} {f : α → Val} : ∀ {xs : List α} {acc : List Val} {R : List Val → Sto → Prop}, chk S → acc.length + xs.length ≤ sizeLine → (∀ x ∈ xs, ∀ k : Option Val → Sto → Prop, k (some (f x)) S → step (g x) S k) → R (acc ++ xs.map f) S → compL step chk (xs.map g) acc S R
  | [], acc, R, hc, hl, hs, hR => ⟨hc, by simpa using hR⟩
  | v :: r, acc, R, hc, hl, hs, hR => by
    rw [List.length_cons] at hl
    rw [List.map_cons]
    refine ⟨hc, hs v List.mem_cons_self _ ⟨by omega, compL_mapA (f := f) hc (by rw [List.length_append]; simp; omega) (fun u hu => hs u (List.mem_cons_of_mem _ hu)) ?_⟩⟩
    rw [List.append_assoc]
    simpa using hR
/-- a comprehension by an invariant: what stands, how many are left -/
theorem compL_inv {step : Val → Sto → (Option Val → Sto → Prop) → Prop} {chk : Sto → Prop} {R : List Val → Sto → Prop} (I : List Val → List Val → Sto → Prop) : ∀ {vs acc : List Val} {S : Sto}, I vs acc S → (∀ r acc S, I r acc S → chk S ∧ acc.length + r.length ≤ sizeLine) → (∀ v r acc S, I (v :: r) acc S → step v S fun o S' => match o with
    | some y => I r (acc ++ [y]) S'
    | none => I r acc S') → (hmono : ∀ v S k k', (∀ o S, k o S → k' o S) → step v S k → step v S k') → (∀ acc S, I [] acc S → R acc S) → compL step chk vs acc S R
  | [], acc, S, h, hc, hs, hm, hR => ⟨(hc _ _ _ h).1, hR _ _ h⟩
  | v :: r, acc, S, h, hc, hs, hm, hR => by
    obtain ⟨h1, h2⟩ := hc _ _ _ h
    rw [List.length_cons] at h2
    refine ⟨h1, hm v S _ _ (fun o S' q => ?_) (hs v r acc S h)⟩
    cases o with
    | some y => exact ⟨by omega, compL_inv I q hc hs hm hR⟩
    | none => exact compL_inv I q hc hs hm hR
/-- a for by an invariant -/
theorem forL_inv {step : Val → DE → Env → Sto → Prop} {chk : Sto → Prop} {D : DE} (I : List Val → Env → Sto → Prop) (hc : ∀ r σ S, I r σ S → chk S) (hs : ∀ v r σ S (nx : Env → Sto → Prop), I (v :: r) σ S → (∀ σ' S', I r σ' S' → nx σ' S') → step v { D with nx := nx, ct := nx, bk := D.nx } σ S) (hR : ∀ σ S, I [] σ S → D.nx σ S) : ∀ {vs : List Val} {σ : Env} {S : Sto}, I vs σ S → forL step chk vs D σ S
  | [], σ, S, h => ⟨hc _ _ _ h, hR _ _ h⟩
  | v :: r, σ, S, h => ⟨hc _ _ _ h, hs v r σ S _ h fun σ' S' q => forL_inv I hc hs hR q⟩
end Li
set_option Elab.async false
set_option linter.all false
set_option maxRecDepth 100000
set_option maxHeartbeats 2000000
/-! LiLaw: from the head's facts to the promises of all defs of a law. -/
namespace Li
open PySem L2
/-- names by numbers -/
def GAllA (m : Mo) (lvl : Nat) (nm : Nat → Str) : List (Nat × Li.G) → Prop
  | [] => True
  | p :: r => GOk m lvl (nm p.1) p.2 ∧ GAllA m lvl nm r
theorem GAllA.all {m : Mo} {lvl : Nat} {nm : Nat → Str} : ∀ {l : List (Nat × Li.G)}, GAllA m lvl nm l → ∀ g, GOk m lvl (nm g) (tabA l g)
  | [], _, g => trivial
  | (i, k) :: r, h, g => by
    unfold tabA
    rw [List.lookup_cons]
    cases q : g == i with
    | true =>
      have e : g = i := eq_of_beq q
      subst e
      exact h.1
    | false => exact GAllA.all (l := r) h.2 g
/-- what the head tells of the module -/
structure Bs (m : Mo) (fn : List He.DefD) (A : Addr → Str → Prop) : Prop where
  d : ∀ d ∈ fn, ∃ fd, FunD m.K d.name d.qual d.params d.body d.scope (d.dvs m.K) (d.kws m.K) (He.fAd m.K d.at_) fd
  glo : ∀ d ∈ fn, ∀ x, d.at_ = (x, none) → m.mg x = some (.ref (He.ga m.K x))
  bl : ∀ x, bnames.contains x = true → m.mg x = none
  att : ∀ C f, A C f → Cls m.K C ∧ NoAttr m.K C f
/-- the defaults of a def: each number of them that is left out -/
def Dfl (m : Mo) (d : He.DefD) (ps : List Str) (dfl : List Val) : Prop := ∀ fd, FunD m.K d.name d.qual d.params d.body d.scope (d.dvs m.K) (d.kws m.K) (He.fAd m.K d.at_) fd →
  ∀ dn, dn ≤ dfl.length → ∃ ds dvs, Binds m.K fd ps ds ∧ Vals dvs ds ∧ Rvs m.K (fun _ => True) (fun _ => none) (dfl.drop (dfl.length - dn)) dvs
theorem dfl_none {m : Mo} {d : He.DefD} {ps : List Str} (e : d.dfl = [])
    (hb : ∀ (kV doc pm : Value) (an : Option Addr) (cdv ct : Value) (us : List Value), us.length = ps.length → bindArgs (PySem.W.fnOf d.name d.qual d.params d.body d.scope .none kV doc pm an cdv ct) ⟨us, []⟩ = pure (ps.zip us)) : Dfl m d ps [] := fun fd F dn hd => by
  have e2 : d.dvs m.K = [] := by
    unfold He.DefD.dvs
    rw [e]
    rfl
  rw [e2] at F
  exact ⟨[], [], F.bindsN hb, .nil, by
    rw [List.drop_nil]
    exact rfl⟩
theorem okLi {m : Mo} {d : He.DefD} {fd : FuncData} {T : Tb} {A : Addr → Str → Prop} {lvl : Nat} {ps : List Str} {b : Ss} {fr : List Nat} {sp : ISp} {l : List (Nat × Li.G)} (F : FunD m.K d.name d.qual d.params d.body d.scope (d.dvs m.K) (d.kws m.K) (He.fAd m.K d.at_) fd) (hnd : ∀ j i sc st, T.ndc j i sc st = false)
    (hS : scB T.N ps d.scope = true) (hb : ckSs T d.scope b d.body = true) (hl : GAllA m lvl T.nm l) (att : ∀ C f, A C f → Cls m.K C ∧ NoAttr m.K C f) (bl : ∀ x, bnames.contains x = true → m.mg x = none)
    (hsp : ∀ vs S Q R, vs.length = ps.length → sp.run vs S Q R → evD { D := tabA l, A := A, er := R } b T.N.length fr vs S Q) : FnOk m.P m.w m.K m.mg m.base (CX m.P m.w) (lvl + 1) (He.fAd m.K d.at_) fd ps (toSp m.K m.T ps.length sp) :=
  fn_li F hnd hS hb (fun g => hl.all g) att bl hsp
/-- a def as a name of the module -/
theorem Bs.fn {m : Mo} {fn : List He.DefD} {A : Addr → Str → Prop} (B : Bs m fn A) {d : He.DefD} {x : Str} {T : Tb} {lvl g n : Nat} {ps : List Str} {b : Ss} {fr : List Nat} {sp : ISp} {l : List (Nat × Li.G)} {dfl : List Val} (i : Nat) (hd : fn[i]? = some d) (hx : d.at_ = (x, none)) (hnm : T.nm g = x) (hn : ps.length = n) (hnd : ∀ j i sc st, T.ndc j i sc st = false)
    (hS : scB T.N ps d.scope = true) (hb : ckSs T d.scope b d.body = true) (hl : GAllA m lvl T.nm l) (hsp : ∀ vs S Q R, vs.length = n → sp.run vs S Q R → evD { D := tabA l, A := A, er := R } b T.N.length fr vs S Q) (hdf : Dfl m d ps dfl) : GOk m (lvl + 1) (T.nm g) (.fn sp n dfl) := by
  subst hn
  have mem := List.mem_of_getElem? hd
  obtain ⟨fd, F⟩ := B.d d mem
  refine ⟨He.fAd m.K d.at_, fd, ps, lvl + 1, Nat.le_refl _, rfl, okLi F hnd hS hb hl B.att B.bl hsp, ?_, F.kp, hdf fd F⟩
  rw [hnm, B.glo d mem x hx, hx]
  rfl
/-- with keywords -/
theorem Bs.fnk {m : Mo} {fn : List He.DefD} {A : Addr → Str → Prop} (B : Bs m fn A) {d : He.DefD} {x : Str} {T : Tb} {lvl g n np : Nat} {ps ks : List Str} {b : Ss} {fr : List Nat} {sp : ISp} {l : List (Nat × Li.G)} (i : Nat) (hd : fn[i]? = some d) (hx : d.at_ = (x, none)) (hnm : T.nm g = x) (hn : ps.length = n) (hnd : ∀ j i sc st, T.ndc j i sc st = false)
    (hS : scB T.N ps d.scope = true) (hb : ckSs T d.scope b d.body = true) (hl : GAllA m lvl T.nm l) (hsp : ∀ vs S Q R, vs.length = n → sp.run vs S Q R → evD { D := tabA l, A := A, er := R } b T.N.length fr vs S Q)
    (hk : ∀ fd, FunD m.K d.name d.qual d.params d.body d.scope (d.dvs m.K) (d.kws m.K) (He.fAd m.K d.at_) fd → KBn m.K fd ps np ks (fun us ws => us ++ ws) (fun vs zs => vs ++ zs)) : GOk m (lvl + 1) (T.nm g) (.fnk sp n np ks) := by
  subst hn
  have mem := List.mem_of_getElem? hd
  obtain ⟨fd, F⟩ := B.d d mem
  refine ⟨He.fAd m.K d.at_, fd, ps, lvl + 1, Nat.le_refl _, rfl, okLi F hnd hS hb hl B.att B.bl hsp, ?_, F.kp, hk fd F⟩
  rw [hnm, B.glo d mem x hx, hx]
  rfl
/-- a class by its __init__ -/
theorem Bs.cls {m : Mo} {fn : List He.DefD} {A : Addr → Str → Prop} (B : Bs m fn A) {d : He.DefD} {x : Str} {T : Tb} {lvl g n : Nat} {ps : List Str} {b : Ss} {fr : List Nat} {sp : ISp} {l : List (Nat × Li.G)} {dfl : List Val} {fz : Bool} (i : Nat) (hd : fn[i]? = some d) (hx : d.at_ = (x, some ("__init__" : Str))) (hnm : T.nm g = x) (hn : ps.length = n) (hnd : ∀ j i sc st, T.ndc j i sc st = false)
    (hS : scB T.N ps d.scope = true) (hb : ckSs T d.scope b d.body = true) (hl : GAllA m lvl T.nm l) (hsp : ∀ vs S Q R, vs.length = n → sp.run vs S Q R → evD { D := tabA l, A := A, er := R } b T.N.length fr vs S Q) (hdf : Dfl m d ps dfl)
    (hmg : m.mg x = some (.ref (He.ga m.K x))) (hmk : Mk m.K (He.ga m.K x) (He.ma m.K (He.ga m.K x) "__init__")) (hco : ClsOk m.K (He.ga m.K x)) : GOk m (lvl + 2) (T.nm g) (.cls (He.ga m.K x) fz sp n dfl) := by
  subst hn
  have mem := List.mem_of_getElem? hd
  obtain ⟨fd, F⟩ := B.d d mem
  have e : He.fAd m.K d.at_ = He.ma m.K (He.ga m.K x) "__init__" := by
    rw [hx]
    rfl
  have o := okLi F hnd hS hb hl B.att B.bl hsp
  rw [e] at o
  exact ⟨_, fd, ps, lvl + 1, Nat.le_refl _, rfl, hmk, o, by rw [hnm]; exact hmg, hco, hdf fd F⟩
/-! ### what a law asks -/
/-- the law's promise: the script is handed in, True comes back -/
theorem law_at {l : PySem.W.OpenLaw} {w : World} {K : PySem.W.Frag} {mg : Str → Option Value} {fa : Addr} {h : Heap} {n k : Nat} {x : Str} {fd : FuncData} {T : List NdefX.NTab} {cs : List (Addr × Addr)} {sp : ISp} (hcs : ∀ p ∈ T, ∃ q ∈ cs, q.2 = p.1)
    (h1 : ∀ p ∈ cs, h.get? p.2 = some { cls := .none, data := .fields #[] }) (h2 : ∀ p ∈ cs, K.lookup p.2 = none) (h3 : ∀ p ∈ cs, PySem.W.CodeHd h p.1 p.2) (hb : ∀ (s : Shared) (u : Value), BindsTo s fd ⟨[u], []⟩ [(x, u)])
    (hsp : ∀ (ns : List Int) (S : Sto), ns.length ≤ n → (∀ z ∈ ns, Builtin.Int.intBits z ≤ 1048576) → sp.run [.scr ns] S (fun v _ => v = .bl true) fun _ _ => False)
    (ok : ∀ base : Heap, K.In base → base.Ns mainGlobals mg → (∀ p ∈ cs, LamX.TabB base mg p.1 p.2) → FnOk l.prog w K mg base (CX l.prog w) k fa fd [x] (toSp K T 1 sp)) : LamX.LawAtS l w K (CX l.prog w) k n x mg fa h :=
  ⟨fd, cs, toSp K T 1 sp, h1, h2, h3, hb, fun H a ns hn hbits hH hS => by
    refine ⟨[.scr ns], fun _ => none, ⟨fun _ => False, T⟩, rfl, rfl, ⟨_, [], rfl, ⟨a, rfl, ?_⟩, rfl⟩, ⟨fun a c z => (nomatch z), fun p hp => hp.elim, fun p hp => hp.elim, fun p hp => ?_⟩, sp.mono (fun v S' e v' H' _ _ r => ?_) (fun ex S' q => q.elim) (hsp ns (fun _ => none) hn hbits)⟩
    · rcases hS with (hS | ⟨o, hS⟩) | hS
      · exact .inl ⟨.inl hS, fun z => z.elim (fun q => q rfl) id⟩
      · exact .inl ⟨.inr ⟨o, hS⟩, fun z => z.elim (fun q => q rfl) id⟩
      · exact .inr (.inr hS)
    · obtain ⟨q, hq, e⟩ := hcs p hp
      refine ⟨#[], ?_, ?_, ?_⟩
      · rw [← e]
        exact hH q hq
      · trivial
      · intro pos cv hc
        cases hc
    · subst e
      exact r, ok⟩
end Li
namespace Li
open PySem L2
def clsB (K : PySem.W.Frag) (x : Str) : Bool := He.eqO (PySem.W.findIn K (.ref (He.ga K x)) "__class__") (some (some (.builtin "object.__class__"))) && (He.eqO (PySem.W.specialIn K (.builtin "object.__class__") "__get__") (some (some (.builtin "getset_descriptor.__get__")))
  && (decide (PySem.W.takesIn K (.builtin "object.__class__") = some true) && decide (PySem.W.mroIn K (He.ga K x) (.type "object") = some true)))
theorem clsB_ok {K : PySem.W.Frag} {x : Str} (c : (He.Fa.cls x).ok K = true) (h : clsB K x = true) : ClsOk K (He.ga K x) := by
  unfold clsB at h
  obtain ⟨h1, h⟩ := He.ba h
  obtain ⟨h2, h⟩ := He.ba h
  obtain ⟨h3, h4⟩ := He.ba h
  exact ⟨He.cls_ok c, He.eqO_ok h1, He.eqO_ok h2, of_decide_eq_true h3, of_decide_eq_true h4⟩
/-- a number as a name of the module -/
theorem gok_int {m : Mo} {lvl g : Nat} {nm : Nat → Str} {x : Str} {i : Int} (hnm : nm g = x) (h : ∃ t, m.mg x = some (.int i t)) : GOk m lvl (nm g) (.val (.int i)) := by
  obtain ⟨t, h⟩ := h
  exact ⟨_, .int i, by rw [hnm]; exact h, ⟨t, rfl⟩, rfl⟩
/-- a tuple of numbers -/
theorem gok_tup {m : Mo} {lvl g : Nat} {nm : Nat → Str} {x : Str} {ns : List Int} (hnm : nm g = x) (h : m.mg x = some (.ref (He.ga m.K x))) (t : He.tupB m.K x (ns.map He.Dv.int) = true) : GOk m lvl (nm g) (.val (.tup (ns.map Val.int))) := by
  refine ⟨_, .ref (He.ga m.K x), by rw [hnm]; exact h, rfl, He.ga m.K x, _, rfl, .inr (He.tupB_ok t _), ?_⟩
  rw [List.map_map]
  exact Rvs.ints ns
end Li
namespace Li
open PySem L2
/-- the tables of the defs that hold local defs -/
structure Bt (m : Mo) (tf : List He.Defn) : Prop where
  tab : ∀ p ∈ tf, LamX.TabB m.base m.mg (He.cT m.K p).1 (He.cT m.K p).2
theorem nbind {x : Str} (hx : ∀ (p : Pos) (name q : Str) (bo : List Stmt) (sc2 : Scope) (cl : List (Str × Addr)) (c' : Addr) (doc pm ctv u : Value), bindArgs ((⟨name, q, ⟨[], [⟨x, none, p⟩], none, [], [], none, []⟩, bo, sc2, cl, c'⟩ : NdefX.NF).fd doc pm ctv) ⟨[u], []⟩ = pure [(x, u)])
    (F : NdefX.NF) (h : argsB [x] F.params = true) (doc pm ctv : Value) (us : List Value) (hl : us.length = [x].length) : bindArgs (F.fd doc pm ctv) ⟨us, []⟩ = pure ([x].zip us) := by
  obtain ⟨name, q, params, bo, sc2, cl, c'⟩ := F
  have h : argsB [x] params = true := h
  unfold argsB at h
  split at h
  · rename_i y _ _
    have e : [x] = [y] := eqS h
    cases e
    match us, hl with
    | [u], _ => exact hx _ _ _ _ _ _ _ _ _ _ u
  · cases h
theorem Bs.fnN {m : Mo} {fn : List He.DefD} {A : Addr → Str → Prop} {tf : List He.Defn} (B : Bs m fn A) (Bt : Bt m tf) {d : He.DefD} {x : Str} {N gn ps : List Str} {cap : List Nat} {nds : List NdT} {tn : Nat → Nat → Str} {lvl g n : Nat} {b : Ss} {fr : List Nat} {sp : ISp} {l : List (Nat × Li.G)} {dfl : List Val} (i : Nat) (hd : fn[i]? = some d) (hx : d.at_ = (x, none)) (hnm : Tb.nm { N := N, gn := gn } g = x) (hn : ps.length = n)
    (ht : d.at_ ∈ tf) (hm : ((He.cT m.K d.at_).2, tn) ∈ m.T) (hu : ∀ p ∈ m.T, p.1 = (He.cT m.K d.at_).2 → p.2 = tn) (hS : scB N ps d.scope = true) (hb : ckSs { N := N, gn := gn, cap := cap, ndc := ndcL N gn nds tn (lq d.qual d.scope) } d.scope b d.body = true) (hcap : ∀ e ∈ nds, ∀ i ∈ e.cap, cap.contains i = true) (hbind : ∀ e ∈ nds, ∀ F : NdefX.NF, argsB e.ps F.params = true → ∀ (doc pm ctv : Value) (us : List Value), us.length = e.ps.length → bindArgs (F.fd doc pm ctv) ⟨us, []⟩ = pure (e.ps.zip us)) (hl : GAllA m lvl (Tb.nm { N := N, gn := gn }) l)
    (hspN : ∀ e ∈ nds, ∀ vs S Q R, vs.length = e.ps.length + e.fr.length → e.sp.run vs S Q R → evD { D := tabA l, A := A, er := R } e.b e.N.length e.fz vs S Q)
    (hsp : ∀ okp vs S Q R, vs.length = n → sp.run vs S Q R → evD { D := tabA l, A := A, er := R, L := lfOf nds okp } b N.length fr vs S Q) (hdf : Dfl m d ps dfl) : GOk m (lvl + 2) (Tb.nm { N := N, gn := gn } g) (.fn sp n dfl) := by
  subst hn
  have mem := List.mem_of_getElem? hd
  obtain ⟨fd, F⟩ := B.d d mem
  refine ⟨He.fAd m.K d.at_, fd, ps, lvl + 2, Nat.le_refl _, rfl, ?_, ?_, F.kp, hdf fd F⟩
  · refine fn_liN F (fun {oc od dV kV doc pm an cdv ct osl} lk => ?_) (Bt.tab _ ht) hm hu hS hb hcap (fun g => hl.all g) B.att B.bl hbind hspN hsp
    obtain ⟨oc', od', dV', kV', doc', pm', an', cdv', ct', osl', rfl, lk', hcd, _, _⟩ := F.ex
    rw [lk] at lk'
    cases lk'
    obtain ⟨c, ec⟩ := He.codeIn_ref hcd
    subst ec
    show Value.ref c = Value.ref (He.codeOf m.K d.at_)
    rw [He.codeOf_eq lk rfl]
  · rw [hnm, B.glo d mem x hx, hx]
    rfl
/-- one default, None -/
theorem dfl_one {m : Mo} {d : He.DefD} {ps : List Str} {v : Val} {dv : He.Dv} (e : d.dfl = [dv]) (hv : Rv m.K (fun _ => True) (fun _ => none) v (dv.v m.K)) (n : Nat) (hn : n + 1 = ps.length)
    (h0 : ∀ (T : Addr) (kV doc pm : Value) (an : Option Addr) (cdv ct : Value) (us its : List Value), us.length = n + 1 → its.length = 1 → ∃ k, bindArgs (PySem.W.fnOf d.name d.qual d.params d.body d.scope (.ref T) kV doc pm an cdv ct) ⟨us, []⟩ = seqItems? (.ref T) >>= k ∧ k (some its.toArray) = pure (ps.zip us))
    (h1 : ∀ (T : Addr) (kV doc pm : Value) (an : Option Addr) (cdv ct : Value) (us its : List Value), us.length = n → its.length = 1 → ∃ k, bindArgs (PySem.W.fnOf d.name d.qual d.params d.body d.scope (.ref T) kV doc pm an cdv ct) ⟨us, []⟩ = seqItems? (.ref T) >>= k ∧ k (some its.toArray) = pure (ps.zip (us ++ its))) : Dfl m d ps [v] := fun fd F dn hd => by
  have e2 : d.dvs m.K = [dv.v m.K] := by
    unfold He.DefD.dvs
    rw [e]
    rfl
  rw [e2] at F
  have hd : dn ≤ 1 := hd
  rcases Nat.lt_or_ge dn 1 with z | z
  · have : dn = 0 := by omega
    subst this
    obtain ⟨ds, r, b⟩ := F.binds1 (n + 1) 1 (by simp) (by simp; omega) fun T kV doc pm an cdv ct us its h2 h3 => by
      obtain ⟨k, q1, q2⟩ := h0 T kV doc pm an cdv ct us its h2 h3
      have h3 : its.length = 1 := h3
      refine ⟨k, q1, ?_⟩
      rw [List.drop_eq_nil_of_le (by omega), List.append_nil]
      exact q2
    exact ⟨ds, _, b, r, rfl⟩
  · have : dn = 1 := by omega
    subst this
    obtain ⟨ds, r, b⟩ := F.binds1 n 0 (by simp) (by simp; omega) h1
    exact ⟨ds, _, b, r, _, _, rfl, hv, rfl⟩
/-- keywords for all that is not handed in by place; one default that nobody needs -/
theorem kb_one {m : Mo} {d : He.DefD} {ps ks : List Str} {dv : He.Dv} (e : d.dfl = [dv]) (n : Nat)
    (h : ∀ (T : Addr) (kV doc pm : Value) (an : Option Addr) (cdv ct : Value) (us its ws : List Value), us.length = n → its.length = 1 → ws.length = ks.length →
      ∃ k, bindArgs (PySem.W.fnOf d.name d.qual d.params d.body d.scope (.ref T) kV doc pm an cdv ct) ⟨us, ks.zip ws⟩ = seqItems? (.ref T) >>= k ∧ k (some its.toArray) = pure (ps.zip (us ++ ws))) :
    ∀ fd, FunD m.K d.name d.qual d.params d.body d.scope (d.dvs m.K) (d.kws m.K) (He.fAd m.K d.at_) fd → KBn m.K fd ps n ks (fun us ws => us ++ ws) (fun vs zs => vs ++ zs) := fun fd F => by
  have e2 : d.dvs m.K = [dv.v m.K] := by
    unfold He.DefD.dvs
    rw [e]
    rfl
  rw [e2] at F
  obtain ⟨oc, od, dV, kV, doc, pm, an, cdv, ct, osl, rfl, lk, hcd, hD, hK⟩ := F.ex
  rcases hD with ⟨e, _⟩ | ⟨_, T, o, its, k, rfl, lT, oT, rT⟩
  · cases e
  · refine ⟨fun s us ws X l1 l2 => ?_, fun r1 r2 => r1.append r2⟩
    obtain ⟨k, q1, q2⟩ := h T kV doc pm an cdv ct us its ws l1 rT.length.symm l2
    refine BindsTo.of_looks fun M => ?_
    rw [q1]
    exact looks_items X lT oT (.of_pure q2)
end Li
set_option Elab.async false
set_option linter.all false
set_option maxRecDepth 100000
set_option maxHeartbeats 0
namespace L46
open PySem PySem.Spec PyProof.Rows Li L2
def D_is_whole : He.DefD := ⟨(("is_whole" : Str), none), ("is_whole" : Str), ("is_whole" : Str), defArgs s_is_whole, defBody s_is_whole, defScope s_is_whole, [], []⟩
def D_share_of : He.DefD := ⟨(("share_of" : Str), none), ("share_of" : Str), ("share_of" : Str), defArgs s_share_of, defBody s_share_of, defScope s_share_of, [], []⟩
def D_low : He.DefD := ⟨(("low" : Str), none), ("low" : Str), ("low" : Str), defArgs s_low, defBody s_low, defScope s_low, [], []⟩
def D_is_fraction : He.DefD := ⟨(("is_fraction" : Str), none), ("is_fraction" : Str), ("is_fraction" : Str), defArgs s_is_fraction, defBody s_is_fraction, defScope s_is_fraction, [], []⟩
def D_from_zero : He.DefD := ⟨(("from_zero" : Str), none), ("from_zero" : Str), ("from_zero" : Str), defArgs s_from_zero, defBody s_from_zero, defScope s_from_zero, [], []⟩
def D_in_one : He.DefD := ⟨(("in_one" : Str), none), ("in_one" : Str), ("in_one" : Str), defArgs s_in_one, defBody s_in_one, defScope s_in_one, [], []⟩
def D_add : He.DefD := ⟨(("add" : Str), none), ("add" : Str), ("add" : Str), defArgs s_add, defBody s_add, defScope s_add, [], []⟩
def D_less : He.DefD := ⟨(("less" : Str), none), ("less" : Str), ("less" : Str), defArgs s_less, defBody s_less, defScope s_less, [], []⟩
def D_mul : He.DefD := ⟨(("mul" : Str), none), ("mul" : Str), ("mul" : Str), defArgs s_mul, defBody s_mul, defScope s_mul, [], []⟩
def D_total : He.DefD := ⟨(("total" : Str), none), ("total" : Str), ("total" : Str), defArgs s_total, defBody s_total, defScope s_total, [], []⟩
def D_Shade.__init__ : He.DefD := ⟨(("Shade" : Str), some ("__init__" : Str)), ("__init__" : Str), ("Shade.__init__" : Str), defArgs s_Shade.__init__, defBody s_Shade.__init__, defScope s_Shade.__init__, [], []⟩
def D_is_shade : He.DefD := ⟨(("is_shade" : Str), none), ("is_shade" : Str), ("is_shade" : Str), defArgs s_is_shade, defBody s_is_shade, defScope s_is_shade, [], []⟩
def D_check_shade : He.DefD := ⟨(("check_shade" : Str), none), ("check_shade" : Str), ("check_shade" : Str), defArgs s_check_shade, defBody s_check_shade, defScope s_check_shade, [], []⟩
def D_parts_of : He.DefD := ⟨(("parts_of" : Str), none), ("parts_of" : Str), ("parts_of" : Str), defArgs s_parts_of, defBody s_parts_of, defScope s_parts_of, [], []⟩
def D_shade_by : He.DefD := ⟨(("shade_by" : Str), none), ("shade_by" : Str), ("shade_by" : Str), defArgs s_shade_by, defBody s_shade_by, defScope s_shade_by, [], []⟩
def D_is_eye : He.DefD := ⟨(("is_eye" : Str), none), ("is_eye" : Str), ("is_eye" : Str), defArgs s_is_eye, defBody s_is_eye, defScope s_is_eye, [], []⟩
def D_check_eye : He.DefD := ⟨(("check_eye" : Str), none), ("check_eye" : Str), ("check_eye" : Str), defArgs s_check_eye, defBody s_check_eye, defScope s_check_eye, [], []⟩
def D_far_by : He.DefD := ⟨(("far_by" : Str), none), ("far_by" : Str), ("far_by" : Str), defArgs s_far_by, defBody s_far_by, defScope s_far_by, [], []⟩
def D_far : He.DefD := ⟨(("far" : Str), none), ("far" : Str), ("far" : Str), defArgs s_far, defBody s_far, defScope s_far, [.non], []⟩
def D_check_lights : He.DefD := ⟨(("check_lights" : Str), none), ("check_lights" : Str), ("check_lights" : Str), defArgs s_check_lights, defBody s_check_lights, defScope s_check_lights, [], []⟩
def D_gaps : He.DefD := ⟨(("gaps" : Str), none), ("gaps" : Str), ("gaps" : Str), defArgs s_gaps, defBody s_gaps, defScope s_gaps, [], []⟩
def D_made_by : He.DefD := ⟨(("made_by" : Str), none), ("made_by" : Str), ("made_by" : Str), defArgs s_made_by, defBody s_made_by, defScope s_made_by, [], []⟩
def D_common_bottom : He.DefD := ⟨(("common_bottom" : Str), none), ("common_bottom" : Str), ("common_bottom" : Str), defArgs s_common_bottom, defBody s_common_bottom, defScope s_common_bottom, [], []⟩
def D_products_of : He.DefD := ⟨(("products_of" : Str), none), ("products_of" : Str), ("products_of" : Str), defArgs s_products_of, defBody s_products_of, defScope s_products_of, [], []⟩
def D_size_of : He.DefD := ⟨(("size_of" : Str), none), ("size_of" : Str), ("size_of" : Str), defArgs s_size_of, defBody s_size_of, defScope s_size_of, [], []⟩
def D_foot_of : He.DefD := ⟨(("foot_of" : Str), none), ("foot_of" : Str), ("foot_of" : Str), defArgs s_foot_of, defBody s_foot_of, defScope s_foot_of, [], []⟩
def D_is_foot : He.DefD := ⟨(("is_foot" : Str), none), ("is_foot" : Str), ("is_foot" : Str), defArgs s_is_foot, defBody s_is_foot, defScope s_is_foot, [], []⟩
def D_choices : He.DefD := ⟨(("choices" : Str), none), ("choices" : Str), ("choices" : Str), defArgs s_choices, defBody s_choices, defScope s_choices, [], []⟩
def D_nearest_by : He.DefD := ⟨(("nearest_by" : Str), none), ("nearest_by" : Str), ("nearest_by" : Str), defArgs s_nearest_by, defBody s_nearest_by, defScope s_nearest_by, [], []⟩
def D_line_by : He.DefD := ⟨(("line_by" : Str), none), ("line_by" : Str), ("line_by" : Str), defArgs s_line_by, defBody s_line_by, defScope s_line_by, [], []⟩
def D_make : He.DefD := ⟨(("make" : Str), none), ("make" : Str), ("make" : Str), defArgs s_make, defBody s_make, defScope s_make, [.non], []⟩
def D__law_cell : He.DefD := ⟨(("_law_cell" : Str), none), ("_law_cell" : Str), ("_law_cell" : Str), defArgs s__law_cell, defBody s__law_cell, defScope s__law_cell, [], []⟩
def D__law_purse : He.DefD := ⟨(("_law_purse" : Str), none), ("_law_purse" : Str), ("_law_purse" : Str), defArgs s__law_purse, defBody s__law_purse, defScope s__law_purse, [], []⟩
def D__law_pick : He.DefD := ⟨(("_law_pick" : Str), none), ("_law_pick" : Str), ("_law_pick" : Str), defArgs s__law_pick, defBody s__law_pick, defScope s__law_pick, [], []⟩
def D__law_low : He.DefD := ⟨(("_law_low" : Str), none), ("_law_low" : Str), ("_law_low" : Str), defArgs s__law_low, defBody s__law_low, defScope s__law_low, [], []⟩
def D__law_plus : He.DefD := ⟨(("_law_plus" : Str), none), ("_law_plus" : Str), ("_law_plus" : Str), defArgs s__law_plus, defBody s__law_plus, defScope s__law_plus, [], []⟩
def D__law_minus : He.DefD := ⟨(("_law_minus" : Str), none), ("_law_minus" : Str), ("_law_minus" : Str), defArgs s__law_minus, defBody s__law_minus, defScope s__law_minus, [], []⟩
def D__law_times : He.DefD := ⟨(("_law_times" : Str), none), ("_law_times" : Str), ("_law_times" : Str), defArgs s__law_times, defBody s__law_times, defScope s__law_times, [], []⟩
def D__law_below : He.DefD := ⟨(("_law_below" : Str), none), ("_law_below" : Str), ("_law_below" : Str), defArgs s__law_below, defBody s__law_below, defScope s__law_below, [], []⟩
def D__law_plain_share : He.DefD := ⟨(("_law_plain_share" : Str), none), ("_law_plain_share" : Str), ("_law_plain_share" : Str), defArgs s__law_plain_share, defBody s__law_plain_share, defScope s__law_plain_share, [], []⟩
def D__law_eye : He.DefD := ⟨(("_law_eye" : Str), none), ("_law_eye" : Str), ("_law_eye" : Str), defArgs s__law_eye, defBody s__law_eye, defScope s__law_eye, [], []⟩
def D__law_far : He.DefD := ⟨(("_law_far" : Str), none), ("_law_far" : Str), ("_law_far" : Str), defArgs s__law_far, defBody s__law_far, defScope s__law_far, [], []⟩
def D__law_lights : He.DefD := ⟨(("_law_lights" : Str), none), ("_law_lights" : Str), ("_law_lights" : Str), defArgs s__law_lights, defBody s__law_lights, defScope s__law_lights, [], []⟩
def D__law_parts : He.DefD := ⟨(("_law_parts" : Str), none), ("_law_parts" : Str), ("_law_parts" : Str), defArgs s__law_parts, defBody s__law_parts, defScope s__law_parts, [], []⟩
def D__law_made : He.DefD := ⟨(("_law_made" : Str), none), ("_law_made" : Str), ("_law_made" : Str), defArgs s__law_made, defBody s__law_made, defScope s__law_made, [], []⟩
def D__law_weighed : He.DefD := ⟨(("_law_weighed" : Str), none), ("_law_weighed" : Str), ("_law_weighed" : Str), defArgs s__law_weighed, defBody s__law_weighed, defScope s__law_weighed, [], []⟩
def D__law_gaps : He.DefD := ⟨(("_law_gaps" : Str), none), ("_law_gaps" : Str), ("_law_gaps" : Str), defArgs s__law_gaps, defBody s__law_gaps, defScope s__law_gaps, [], []⟩
def D__law_wish : He.DefD := ⟨(("_law_wish" : Str), none), ("_law_wish" : Str), ("_law_wish" : Str), defArgs s__law_wish, defBody s__law_wish, defScope s__law_wish, [], []⟩
def D__law_shade : He.DefD := ⟨(("_law_shade" : Str), none), ("_law_shade" : Str), ("_law_shade" : Str), defArgs s__law_shade, defBody s__law_shade, defScope s__law_shade, [], []⟩
def D__law_right : He.DefD := ⟨(("_law_right" : Str), none), ("_law_right" : Str), ("_law_right" : Str), defArgs s__law_right, defBody s__law_right, defScope s__law_right, [], []⟩
def D_law : He.DefD := ⟨(("law" : Str), none), ("law" : Str), ("law" : Str), defArgs s_law, defBody s_law, defScope s_law, [], []⟩
def fn0 : List He.DefD := [D_is_whole, D_share_of, D_low, D_is_fraction, D_from_zero, D_in_one, D_add, D_less, D_mul, D_total, D_Shade.__init__, D_is_shade, D_check_shade, D_parts_of, D_shade_by, D_is_eye, D_check_eye, D_far_by, D_far, D_check_lights, D_gaps, D_made_by, D_common_bottom, D_products_of, D_size_of, D_foot_of, D_is_foot, D_choices, D_nearest_by, D_line_by, D_make, D__law_cell, D__law_purse, D__law_pick, D__law_low, D__law_plus, D__law_minus, D__law_times, D__law_below, D__law_plain_share]
def fn1 : List He.DefD := [D__law_eye, D__law_far, D__law_lights, D__law_parts, D__law_made, D__law_weighed, D__law_gaps, D__law_wish, D__law_shade, D__law_right, D_law]
def fn : List He.DefD := fn0 ++ fn1
def fa0 : List He.Fa := [.glo ("ZERO" : Str), .glo ("is_whole" : Str), .glo ("share_of" : Str), .glo ("low" : Str), .glo ("is_fraction" : Str), .glo ("from_zero" : Str), .glo ("in_one" : Str), .glo ("add" : Str), .glo ("less" : Str), .glo ("mul" : Str), .glo ("total" : Str), .glo ("Shade" : Str), .cls ("Shade" : Str), .mkr ("Shade" : Str), .noat ("Shade" : Str) ("ember" : Str), .noat ("Shade" : Str) ("leaf" : Str), .noat ("Shade" : Str) ("sky" : Str), .glo ("is_shade" : Str), .glo ("check_shade" : Str), .glo ("parts_of" : Str), .glo ("shade_by" : Str), .int ("MOST_EYE" : Str) 99, .glo ("EVEN" : Str), .glo ("is_eye" : Str), .glo ("check_eye" : Str), .glo ("far_by" : Str), .glo ("far" : Str), .int ("MOST_LIGHTS" : Str) 5, .int ("MOST_USED" : Str) 4, .glo ("check_lights" : Str), .glo ("gaps" : Str), .glo ("made_by" : Str), .glo ("common_bottom" : Str), .glo ("products_of" : Str), .glo ("size_of" : Str), .glo ("foot_of" : Str), .glo ("is_foot" : Str), .glo ("choices" : Str), .glo ("nearest_by" : Str), .glo ("line_by" : Str)]
def fa1 : List He.Fa := [.glo ("make" : Str), .glo ("_law_cell" : Str), .glo ("_law_purse" : Str), .glo ("_law_pick" : Str), .glo ("_law_low" : Str), .glo ("_law_plus" : Str), .glo ("_law_minus" : Str), .glo ("_law_times" : Str), .glo ("_law_below" : Str), .glo ("_law_plain_share" : Str), .glo ("_law_eye" : Str), .glo ("_law_far" : Str), .glo ("_law_lights" : Str), .glo ("_law_parts" : Str), .glo ("_law_made" : Str), .glo ("_law_weighed" : Str), .glo ("_law_gaps" : Str), .glo ("_law_wish" : Str), .glo ("_law_shade" : Str), .glo ("_law_right" : Str), .glo ("law" : Str), .free ("len" : Str), .free ("abs" : Str), .free ("int" : Str), .free ("str" : Str), .free ("repr" : Str), .free ("tuple" : Str), .free ("list" : Str), .free ("sum" : Str), .free ("min" : Str), .free ("max" : Str), .free ("all" : Str), .free ("any" : Str), .free ("sorted" : Str), .free ("isinstance" : Str), .free ("range" : Str), .free ("enumerate" : Str), .free ("zip" : Str), .free ("dict" : Str), .free ("bool" : Str)]
def fa : List He.Fa := fa0 ++ fa1
def tf : List He.Defn := [(("far_by" : Str), none), (("products_of" : Str), none)]
def ex (K : PySem.W.Frag) : Bool := (He.tupB K ("ZERO" : Str) [.int 0, .int 1]) && (He.tupB K ("EVEN" : Str) [.int 1, .int 1, .int 1]) && (clsB K ("Shade" : Str)) && (decide ((tf.map fun p => (He.cT K p).2).Nodup))
end L46
set_option Elab.async false
set_option linter.all false
set_option maxRecDepth 100000
set_option maxHeartbeats 0
namespace L46
open PySem PySem.Spec PyProof.Rows Li L2
def names0 : List Str := [("ShadeError" : Str), ("NoShade" : Str), ("NoEye" : Str), ("NoLights" : Str), ("ZERO" : Str), ("is_whole" : Str), ("share_of" : Str), ("low" : Str), ("is_fraction" : Str), ("from_zero" : Str), ("in_one" : Str), ("add" : Str), ("less" : Str), ("mul" : Str), ("total" : Str), ("show_fraction" : Str), ("Shade" : Str), ("is_shade" : Str), ("check_shade" : Str), ("parts_of" : Str), ("shade_by" : Str), ("MOST_EYE" : Str), ("EVEN" : Str), ("is_eye" : Str), ("check_eye" : Str), ("far_by" : Str), ("far" : Str), ("MOST_LIGHTS" : Str), ("MOST_USED" : Str), ("check_lights" : Str), ("gaps" : Str), ("made_by" : Str), ("common_bottom" : Str), ("products_of" : Str), ("size_of" : Str)]
def names1 : List Str := [("foot_of" : Str), ("is_foot" : Str), ("choices" : Str), ("nearest_by" : Str), ("line_by" : Str), ("make" : Str), ("_law_cell" : Str), ("_law_purse" : Str), ("_law_pick" : Str), ("_law_low" : Str), ("_law_plus" : Str), ("_law_minus" : Str), ("_law_times" : Str), ("_law_below" : Str), ("_law_plain_share" : Str), ("_law_eye" : Str), ("_law_far" : Str), ("_law_lights" : Str), ("_law_parts" : Str), ("_law_made" : Str), ("_law_weighed" : Str), ("_law_gaps" : Str), ("_law_wish" : Str), ("_law_shade" : Str), ("_law_right" : Str)]
def names : List Str := names0 ++ names1
abbrev R : PySem.W.OpenRow := PySem.W.OpenLaw.row PySem.Challenge.rw_lightshares_k46_whole_none_made_is_neare
abbrev hk : PySem.W.Hook := He.hookX 6 fa fn [] tf ex
def ob (s : PySem.W.SharedT) : He.AlX := He.obsX 6 fa fn [] tf ex (HandSHeadRun.getT s)
theorem ob_eq (s : PySem.W.SharedT) : ob s = hk.obs s.abs := He.obsX_eq (HandSHeadRun.getT_eq s)
theorem run (w : World) : HandSHeadRun.RunEq R (PySem.W.view R.prog [66]) hk ob 3000 names w := by
  intro os
  kernel_rfl
end L46
set_option Elab.async false
set_option linter.all false
/-! FrZ: sizes of fractions: a multiple of 1/D, of at most M. -/
namespace Li
def Fz (D M : Nat) (x : Rat) : Prop := 0 < D ∧ ∃ k : Int, x * (D : Rat) = (k : Rat) ∧ k.natAbs ≤ M * D
theorem Fz.eq {D M : Nat} {x : Rat} (h : Fz D M x) : ∃ k : Int, x = mkRat k D ∧ k.natAbs ≤ M * D := by
  obtain ⟨h0, k, h1, h2⟩ := h
  refine ⟨k, ?_, h2⟩
  rw [Rat.mkRat_eq_div, ← h1, Rat.mul_div_cancel]
  exact fun z => by
    have := Rat.natCast_eq_zero_iff.mp z
    omega
theorem Fz.den_dvd {D M : Nat} {x : Rat} (h : Fz D M x) : x.den ∣ D := by
  obtain ⟨k, e, _⟩ := h.eq
  have h0 := h.1
  rw [e, Rat.den_mkRat, if_neg (by omega)]
  exact Nat.div_dvd_of_dvd (Nat.gcd_dvd_left _ _)
theorem Fz.den_le {D M : Nat} {x : Rat} (h : Fz D M x) : x.den ≤ D := Nat.le_of_dvd h.1 h.den_dvd
theorem Fz.num_le {D M : Nat} {x : Rat} (h : Fz D M x) : x.num.natAbs ≤ M * D := by
  obtain ⟨k, e, h2⟩ := h.eq
  have h0 := h.1
  rw [e, Rat.num_mkRat, if_neg (by omega)]
  refine Nat.le_trans ?_ h2
  rw [Int.natAbs_ediv_of_dvd (Int.ofNat_dvd_left.mpr (Nat.gcd_dvd_right _ _))]
  exact Nat.div_le_self _ _
theorem Fz.add {D M N : Nat} {x y : Rat} (h : Fz D M x) (g : Fz D N y) : Fz D (M + N) (x + y) := by
  obtain ⟨h0, k, h1, h2⟩ := h
  obtain ⟨_, l, g1, g2⟩ := g
  refine ⟨h0, k + l, ?_, ?_⟩
  · rw [Rat.intCast_add, Rat.add_mul, h1, g1]
  · rw [Nat.add_mul]
    omega
theorem Fz.sub {D M N : Nat} {x y : Rat} (h : Fz D M x) (g : Fz D N y) : Fz D (M + N) (x - y) := by
  obtain ⟨h0, k, h1, h2⟩ := h
  obtain ⟨_, l, g1, g2⟩ := g
  refine ⟨h0, k - l, ?_, ?_⟩
  · rw [Rat.intCast_sub, ← h1, ← g1]
    grind
  · rw [Nat.add_mul]
    omega
theorem Fz.mul {D E M N : Nat} {x y : Rat} (h : Fz D M x) (g : Fz E N y) : Fz (D * E) (M * N) (x * y) := by
  obtain ⟨h0, k, h1, h2⟩ := h
  obtain ⟨g0, l, g1, g2⟩ := g
  refine ⟨Nat.mul_pos h0 g0, k * l, ?_, ?_⟩
  · rw [Rat.intCast_mul, ← h1, ← g1, Rat.natCast_mul]
    grind
  · rw [Int.natAbs_mul]
    calc k.natAbs * l.natAbs ≤ (M * D) * (N * E) := Nat.mul_le_mul h2 g2
      _ = M * N * (D * E) := by grind
theorem Fz.mono {D M D' M' : Nat} {x : Rat} (h : Fz D M x) (hd : D ∣ D') (h0 : 0 < D') (hm : M ≤ M') : Fz D' M' x := by
  obtain ⟨_, k, h1, h2⟩ := h
  obtain ⟨c, rfl⟩ := hd
  refine ⟨h0, k * c, ?_, ?_⟩
  · rw [Rat.intCast_mul, ← h1, Rat.natCast_mul, Rat.intCast_natCast]
    grind
  · rw [Int.natAbs_mul, Int.natAbs_natCast]
    calc k.natAbs * c ≤ M * D * c := Nat.mul_le_mul_right _ h2
      _ ≤ M' * D * c := Nat.mul_le_mul_right _ (Nat.mul_le_mul_right _ hm)
      _ = M' * (D * c) := by grind
theorem Fz.up {D M M' : Nat} {x : Rat} (h : Fz D M x) (hm : M ≤ M') : Fz D M' x := h.mono (Nat.dvd_refl _) h.1 hm
theorem Fz.int {D : Nat} (i : Int) (h : 0 < D) : Fz D i.natAbs (i : Rat) := by
  refine ⟨h, i * D, ?_, ?_⟩
  · rw [Rat.intCast_mul, Rat.intCast_natCast]
  · rw [Int.natAbs_mul, Int.natAbs_natCast]
    exact Nat.le_refl _
theorem Fz.zero {D : Nat} (h : 0 < D) : Fz D 0 0 := Fz.int 0 h
theorem Fz.neg {D M : Nat} {x : Rat} (h : Fz D M x) : Fz D M (-x) := by
  have := (Fz.zero h.1).sub h
  rw [Nat.zero_add] at this
  have e : -x = 0 - x := by grind
  rw [e]
  exact this
/-- k / D -/
theorem Fz.mk {D : Nat} (k : Int) (M : Nat) (h : 0 < D) (hk : k.natAbs ≤ M * D) : Fz D M (Rat.divInt k D) := by
  refine ⟨h, k, ?_, hk⟩
  rw [Rat.divInt_eq_div, Rat.intCast_natCast, Rat.div_mul_cancel]
  exact fun z => by
    have := Rat.natCast_eq_zero_iff.mp z
    omega
/-- a sum -/
def rsum : List Rat → Rat
  | [] => 0
  | x :: r => x + rsum r
theorem rsum_foldl : ∀ (xs : List Rat) (a : Rat), xs.foldl (· + ·) a = a + rsum xs
  | [], a => by
    show a = a + 0
    grind
  | x :: r, a => by
    show r.foldl (· + ·) (a + x) = a + (x + rsum r)
    rw [rsum_foldl r]
    grind
/-! ### numbers of so many bits -/
def B2 (n a : Nat) : Prop := n < 2 ^ a
theorem B2.mul {n m a b : Nat} (h : B2 n a) (g : B2 m b) : B2 (n * m) (a + b) := by
  unfold B2 at *
  rw [Nat.pow_add]
  exact Nat.mul_lt_mul'' h g
theorem B2.mono {n a b : Nat} (h : B2 n a) (hb : a ≤ b) : B2 n b := Nat.lt_of_lt_of_le h (Nat.pow_le_pow_right (by decide) hb)
theorem B2.add {n m a : Nat} (h : B2 n a) (g : B2 m a) : B2 (n + m) (a + 1) := by
  unfold B2 at *
  rw [Nat.pow_succ]
  omega
theorem B2.le {n m a : Nat} (h : B2 n a) (g : m ≤ n) : B2 m a := Nat.lt_of_le_of_lt g h
end Li
set_option Elab.async false
set_option linter.all false
/-! Mt: the nearest that a few points make: it exists among few of them (plain mathematics). -/
namespace Li
namespace Mt
abbrev V3 : Type := Rat × Rat × Rat
/-- sums over the first n numbers -/
def sm : Nat → (Nat → Rat) → Rat
  | 0, _ => 0
  | n + 1, f => sm n f + f n
theorem sm_add (f g : Nat → Rat) : ∀ n, sm n (fun k => f k + g k) = sm n f + sm n g
  | 0 => by simp [sm]; grind
  | n + 1 => by
    simp only [sm]
    rw [sm_add f g n]
    grind
theorem sm_mul (c : Rat) (f : Nat → Rat) : ∀ n, sm n (fun k => c * f k) = c * sm n f
  | 0 => by simp [sm]
  | n + 1 => by
    simp only [sm]
    rw [sm_mul c f n]
    grind
theorem sm_congr {f g : Nat → Rat} : ∀ {n}, (∀ k, k < n → f k = g k) → sm n f = sm n g
  | 0, _ => rfl
  | n + 1, h => by
    simp only [sm]
    rw [sm_congr (n := n) fun k hk => h k (by omega), h n (by omega)]
theorem sm_zero {f : Nat → Rat} {n : Nat} (h : ∀ k, k < n → f k = 0) : sm n f = 0 := by
  induction n with
  | zero => rfl
  | succ n ih =>
    simp only [sm]
    rw [ih fun k hk => h k (by omega), h n (by omega)]
    grind
theorem sm_single {j : Nat} (c : Rat) : ∀ {n}, j < n → sm n (fun k => if k = j then c else 0) = c
  | 0, h => by omega
  | n + 1, h => by
    simp only [sm]
    by_cases e : n = j
    · subst e
      rw [if_pos rfl, sm_zero fun k hk => if_neg (by omega)]
      grind
    · rw [if_neg e, sm_single c (n := n) (by omega)]
      grind
/-! ### vectors -/
def dot (e a b : V3) : Rat := e.1 * a.1 * b.1 + e.2.1 * a.2.1 * b.2.1 + e.2.2 * a.2.2 * b.2.2
def sub (a b : V3) : V3 := (a.1 - b.1, a.2.1 - b.2.1, a.2.2 - b.2.2)
def pt (n : Nat) (v : Nat → V3) (x : Nat → Rat) : V3 := (sm n fun k => x k * (v k).1, sm n fun k => x k * (v k).2.1, sm n fun k => x k * (v k).2.2)
def Pos (e : V3) : Prop := 0 < e.1 ∧ 0 < e.2.1 ∧ 0 < e.2.2
theorem dot_pt (e : V3) (n : Nat) (v : Nat → V3) (x : Nat → Rat) (w : V3) : dot e (pt n v x) w = sm n fun k => x k * dot e (v k) w := by
  have h : ∀ n, e.1 * (sm n fun k => x k * (v k).1) * w.1 + e.2.1 * (sm n fun k => x k * (v k).2.1) * w.2.1 + e.2.2 * (sm n fun k => x k * (v k).2.2) * w.2.2 = sm n fun k => x k * dot e (v k) w := by
    intro n
    induction n with
    | zero => simp only [sm]; grind
    | succ n ih =>
      simp only [sm]
      rw [← ih]
      unfold dot
      grind
  exact h n
theorem dot_comm (e a b : V3) : dot e a b = dot e b a := by
  unfold dot
  grind
theorem sq_nn (a : Rat) : 0 ≤ a * a := by
  rcases Rat.nonneg_total a with h | h
  · exact Rat.mul_nonneg h h
  · have := Rat.mul_nonneg h h
    have e : -a * -a = a * a := by grind
    rw [e] at this
    exact this
theorem dot_nn {e : V3} (h : Pos e) (a : V3) : 0 ≤ dot e a a := by
  obtain ⟨h1, h2, h3⟩ := h
  have q1 := Rat.mul_nonneg (Rat.le_of_lt h1) (sq_nn a.1)
  have q2 := Rat.mul_nonneg (Rat.le_of_lt h2) (sq_nn a.2.1)
  have q3 := Rat.mul_nonneg (Rat.le_of_lt h3) (sq_nn a.2.2)
  unfold dot
  grind
theorem sq_zero {a : Rat} (h : a * a = 0) : a = 0 := by
  rcases Rat.mul_eq_zero.mp h with h | h <;> exact h
theorem dot_zero {e : V3} (h : Pos e) {a : V3} (h0 : dot e a a = 0) : a = (0, 0, 0) := by
  obtain ⟨h1, h2, h3⟩ := h
  have q1 := Rat.mul_nonneg (Rat.le_of_lt h1) (sq_nn a.1)
  have q2 := Rat.mul_nonneg (Rat.le_of_lt h2) (sq_nn a.2.1)
  have q3 := Rat.mul_nonneg (Rat.le_of_lt h3) (sq_nn a.2.2)
  unfold dot at h0
  have z1 : e.1 * (a.1 * a.1) = 0 := by grind
  have z2 : e.2.1 * (a.2.1 * a.2.1) = 0 := by grind
  have z3 : e.2.2 * (a.2.2 * a.2.2) = 0 := by grind
  have y1 := sq_zero ((Rat.mul_eq_zero.mp z1).resolve_left (Rat.ne_of_gt h1))
  have y2 := sq_zero ((Rat.mul_eq_zero.mp z2).resolve_left (Rat.ne_of_gt h2))
  have y3 := sq_zero ((Rat.mul_eq_zero.mp z3).resolve_left (Rat.ne_of_gt h3))
  obtain ⟨a1, a2, a3⟩ := a
  simp only at y1 y2 y3
  rw [y1, y2, y3]
theorem dot_pos {e : V3} (h : Pos e) {a : V3} (h0 : a ≠ (0, 0, 0)) : 0 < dot e a a := by
  rcases Rat.le_iff_lt_or_eq.mp (dot_nn h a) with q | q
  · exact q
  · exact absurd (dot_zero h q.symm) h0
/-! ### spans -/
def lin3 (x : Rat) (a : V3) (y : Rat) (b : V3) (z : Rat) (c : V3) : V3 := (x * a.1 + y * b.1 + z * c.1, x * a.2.1 + y * b.2.1 + z * c.2.1, x * a.2.2 + y * b.2.2 + z * c.2.2)
theorem dot_lin (e : V3) (x : Rat) (a : V3) (y : Rat) (b : V3) (z : Rat) (c w : V3) : dot e (lin3 x a y b z c) w = x * dot e a w + y * dot e b w + z * dot e c w := by
  unfold dot lin3
  grind
theorem dot_linr (e : V3) (x : Rat) (a : V3) (y : Rat) (b : V3) (z : Rat) (c w : V3) : dot e w (lin3 x a y b z c) = x * dot e w a + y * dot e w b + z * dot e w c := by
  unfold dot lin3
  grind
def Ind1 (a : V3) : Prop := ∀ x, lin3 x a 0 a 0 a = (0, 0, 0) → x = 0
def Ind2 (a b : V3) : Prop := ∀ x y, lin3 x a y b 0 b = (0, 0, 0) → x = 0 ∧ y = 0
def Ind3 (a b c : V3) : Prop := ∀ x y z, lin3 x a y b z c = (0, 0, 0) → x = 0 ∧ y = 0 ∧ z = 0
theorem Ind2.one {a b : V3} (h : Ind2 a b) : Ind1 a := fun x hx => (h x 0 (by
  rw [← hx]
  unfold lin3
  simp)).1
theorem Ind3.two {a b c : V3} (h : Ind3 a b c) : Ind2 a b := fun x y hx => by
  have := h x y 0 (by
    rw [← hx]
    unfold lin3
    simp)
  exact ⟨this.1, this.2.1⟩
theorem gram1 {e a : V3} (p : Pos e) (h : Ind1 a) : 0 < dot e a a := dot_pos p fun z => by
  have := h 1 (by
    rw [z]
    unfold lin3
    grind)
  exact absurd this (by decide)
def d2 (a b c d : Rat) : Rat := a * d - b * c
def d3 (a b c d e f g h i : Rat) : Rat := a * (e * i - f * h) - b * (d * i - f * g) + c * (d * h - e * g)
theorem pos_of_mul {a b : Rat} (ha : 0 < a) (h : 0 < a * b) : 0 < b := (Rat.mul_pos_iff_of_pos_left ha).mp h
theorem gram2 {e a b : V3} (p : Pos e) (h : Ind2 a b) : 0 < d2 (dot e a a) (dot e a b) (dot e b a) (dot e b b) := by
  have h1 := gram1 p h.one
  have hu : lin3 (-(dot e a b)) a (dot e a a) b 0 b ≠ (0, 0, 0) := fun z => by
    have := (h _ _ z).2
    rw [this] at h1
    exact absurd h1 (by decide)
  have q := dot_pos p hu
  refine pos_of_mul h1 ?_
  simp only [dot_lin, dot_linr] at q
  rw [dot_comm e b a] at q
  rw [dot_comm e b a]
  unfold d2
  grind
theorem gram3 {e a b c : V3} (p : Pos e) (h : Ind3 a b c) : 0 < d3 (dot e a a) (dot e a b) (dot e a c) (dot e b a) (dot e b b) (dot e b c) (dot e c a) (dot e c b) (dot e c c) := by
  have h2 := gram2 p h.two
  have hu : lin3 (-(d2 (dot e c a) (dot e a b) (dot e c b) (dot e b b))) a (-(d2 (dot e a a) (dot e c a) (dot e a b) (dot e c b))) b (d2 (dot e a a) (dot e a b) (dot e b a) (dot e b b)) c ≠ (0, 0, 0) := fun z => by
    have := (h _ _ _ z).2.2
    rw [this] at h2
    exact absurd h2 (by decide)
  have q := dot_pos p hu
  refine pos_of_mul h2 ?_
  simp only [dot_lin, dot_linr] at q
  rw [dot_comm e b a, dot_comm e c a, dot_comm e c b] at q
  rw [dot_comm e b a, dot_comm e c a, dot_comm e c b]
  unfold d2 at q ⊢
  unfold d3
  grind
end Mt
end Li
set_option Elab.async false
set_option linter.all false
/-! Mt2: feet of affinely independent points. -/
namespace Li
namespace Mt
def pk : List (Nat × Rat) → Nat → Rat
  | [], _ => 0
  | (j, c) :: r, k => (if k = j then c else 0) + pk r k
def ls : List (Nat × Rat) → (Nat → Rat) → Rat
  | [], _ => 0
  | (j, c) :: r, g => c * g j + ls r g
theorem sm_pk {n : Nat} {g : Nat → Rat} : ∀ {l : List (Nat × Rat)}, (∀ p ∈ l, p.1 < n) → sm n (fun k => pk l k * g k) = ls l g
  | [], _ => by
    refine sm_zero fun k _ => ?_
    show (0 : Rat) * g k = 0
    grind
  | (j, c) :: r, h => by
    show _ = c * g j + ls r g
    rw [← sm_pk (l := r) fun p hp => h p (List.mem_cons_of_mem _ hp), ← sm_single (n := n) (j := j) (c * g j) (h (j, c) List.mem_cons_self), ← sm_add]
    refine sm_congr fun k _ => ?_
    show ((if k = j then c else 0) + pk r k) * g k = (if k = j then c * g j else 0) + pk r k * g k
    by_cases e : k = j
    · subst e
      rw [if_pos rfl, if_pos rfl]
      grind
    · rw [if_neg e, if_neg e]
      grind
theorem sm_pk1 {n : Nat} {l : List (Nat × Rat)} (h : ∀ p ∈ l, p.1 < n) : sm n (pk l) = ls l fun _ => 1 := by
  rw [← sm_pk h]
  refine sm_congr fun k _ => ?_
  grind
theorem pk_out {k : Nat} : ∀ {l : List (Nat × Rat)}, (∀ p ∈ l, p.1 ≠ k) → pk l k = 0
  | [], _ => rfl
  | (j, c) :: r, h => by
    show (if k = j then c else 0) + pk r k = 0
    rw [if_neg fun z => h (j, c) List.mem_cons_self z.symm, pk_out fun p hp => h p (List.mem_cons_of_mem _ hp)]
    grind
variable {e : V3} {n : Nat} {v : Nat → V3} {p : Nat → Bool}
/-- affinely independent -/
def AffInd (n : Nat) (v : Nat → V3) (p : Nat → Bool) : Prop := ∀ x : Nat → Rat, (∀ k, k < n → p k = false → x k = 0) → sm n x = 0 → pt n v x = (0, 0, 0) → ∀ k, k < n → x k = 0
theorem AffInd.sub {p q : Nat → Bool} (h : AffInd n v p) (hs : ∀ k, k < n → q k = true → p k = true) : AffInd n v q := fun x hx h0 h1 => h x (fun k hk hp => hx k hk (by
  cases e : q k with
  | false => rfl
  | true => rw [hs k hk e] at hp; cases hp)) h0 h1
structure Foot (e : V3) (n : Nat) (v : Nat → V3) (p : Nat → Bool) (x : Nat → Rat) : Prop where
  supp : ∀ k, k < n → p k = false → x k = 0
  one : sm n x = 1
  orth : ∀ k, k < n → p k = true → dot e (v k) (pt n v x) = dot e (pt n v x) (pt n v x)
/-- by what is told of a point f of them and the differences -/
theorem Foot.mk' {x : Nat → Rat} {c : Rat} (supp : ∀ k, k < n → p k = false → x k = 0) (one : sm n x = 1) (h : ∀ k, k < n → p k = true → dot e (v k) (pt n v x) = c) : Foot e n v p x := by
  have key : dot e (pt n v x) (pt n v x) = c := by
    rw [dot_pt, show c = c * 1 by grind, ← one, ← sm_mul]
    refine sm_congr fun k hk => ?_
    cases q : p k with
    | false =>
      rw [supp k hk q]
      grind
    | true =>
      rw [h k hk q]
      grind
  exact ⟨supp, one, fun k hk q => by rw [h k hk q, key]⟩
theorem pt_pk {l : List (Nat × Rat)} (h : ∀ p ∈ l, p.1 < n) : pt n v (pk l) = (ls l fun k => (v k).1, ls l fun k => (v k).2.1, ls l fun k => (v k).2.2) := by
  unfold pt
  rw [sm_pk h, sm_pk h, sm_pk h]
theorem div_mul {a b : Rat} (h : b ≠ 0) : b * (a / b) = a := by
  rw [Rat.mul_comm]
  exact Rat.div_mul_cancel h
/-! ### independent differences -/
theorem ind1 {f a : Nat} (h : AffInd n v p) (hf : f < n) (ha : a < n) (pf : p f = true) (pa : p a = true) (n1 : a ≠ f) : Ind1 (sub (v a) (v f)) := fun x hx => by
  have hl : ∀ q ∈ [(f, -x), (a, x)], q.1 < n := by
    intro q hq
    simp only [List.mem_cons, List.not_mem_nil, or_false] at hq
    rcases hq with rfl | rfl <;> assumption
  have z := h (pk [(f, -x), (a, x)]) (fun k _ hk => pk_out fun q hq => by
    simp only [List.mem_cons, List.not_mem_nil, or_false] at hq
    rcases hq with rfl | rfl <;> intro z <;> subst z <;> simp_all) (by
    rw [sm_pk1 hl]
    simp only [ls]
    grind) (by
    rw [pt_pk hl, ← hx]
    unfold lin3 sub
    simp only [ls]
    refine Prod.ext ?_ (Prod.ext ?_ ?_) <;> simp only [] <;> grind) a ha
  simp only [pk, if_neg n1, if_true] at z
  grind
theorem ind2 {f a b : Nat} (h : AffInd n v p) (hf : f < n) (ha : a < n) (hb : b < n) (pf : p f = true) (pa : p a = true) (pb : p b = true) (n1 : a ≠ f) (n2 : b ≠ f) (n3 : b ≠ a) : Ind2 (sub (v a) (v f)) (sub (v b) (v f)) := fun x y hx => by
  have hl : ∀ q ∈ [(f, -x - y), (a, x), (b, y)], q.1 < n := by
    intro q hq
    simp only [List.mem_cons, List.not_mem_nil, or_false] at hq
    rcases hq with rfl | rfl | rfl <;> assumption
  have z := h (pk [(f, -x - y), (a, x), (b, y)]) (fun k _ hk => pk_out fun q hq => by
    simp only [List.mem_cons, List.not_mem_nil, or_false] at hq
    rcases hq with rfl | rfl | rfl <;> intro z <;> subst z <;> simp_all) (by
    rw [sm_pk1 hl]
    simp only [ls]
    grind) (by
    rw [pt_pk hl, ← hx]
    unfold lin3 sub
    simp only [ls]
    refine Prod.ext ?_ (Prod.ext ?_ ?_) <;> simp only [] <;> grind)
  have z1 := z a ha
  have z2 := z b hb
  simp only [pk, if_neg n1, if_neg n2, if_neg n3, if_neg n3.symm, if_true] at z1 z2
  exact ⟨by grind, by grind⟩
theorem ind3 {f a b c : Nat} (h : AffInd n v p) (hf : f < n) (ha : a < n) (hb : b < n) (hc : c < n) (pf : p f = true) (pa : p a = true) (pb : p b = true) (pc : p c = true) (n1 : a ≠ f) (n2 : b ≠ f) (n3 : c ≠ f) (n4 : b ≠ a) (n5 : c ≠ a) (n6 : c ≠ b) : Ind3 (sub (v a) (v f)) (sub (v b) (v f)) (sub (v c) (v f)) := fun x y w hx => by
  have hl : ∀ q ∈ [(f, -x - y - w), (a, x), (b, y), (c, w)], q.1 < n := by
    intro q hq
    simp only [List.mem_cons, List.not_mem_nil, or_false] at hq
    rcases hq with rfl | rfl | rfl | rfl <;> assumption
  have z := h (pk [(f, -x - y - w), (a, x), (b, y), (c, w)]) (fun k _ hk => pk_out fun q hq => by
    simp only [List.mem_cons, List.not_mem_nil, or_false] at hq
    rcases hq with rfl | rfl | rfl | rfl <;> intro z <;> subst z <;> simp_all) (by
    rw [sm_pk1 hl]
    simp only [ls]
    grind) (by
    rw [pt_pk hl, ← hx]
    unfold lin3 sub
    simp only [ls]
    refine Prod.ext ?_ (Prod.ext ?_ ?_) <;> simp only [] <;> grind)
  have z1 := z a ha
  have z2 := z b hb
  have z3 := z c hc
  simp only [pk, if_neg n1, if_neg n2, if_neg n3, if_neg n4, if_neg n4.symm, if_neg n5, if_neg n5.symm, if_neg n6, if_neg n6.symm, if_true] at z1 z2 z3
  exact ⟨by grind, by grind, by grind⟩
end Mt
end Li
set_option Elab.async false
set_option linter.all false
set_option maxRecDepth 100000
/-! Fr: fractions: what the program's and the laws' defs of fractions do. -/
namespace Li
open PySem
local macro_rules | `(tactic| walk_at "li") => `(tactic| simp only [evD, evSs, evS, evE, evEs, evI, evO, evIt, slotQ_0, slotQ_s, cloQ_0, cloQ_s, capQ_nil, capQ_cons, intQ_i, adrQ_a, lstQ_l, tupQ_t, dctQ_d, optQ_s, gvalQ_v, brV_s, asL_l, truV_b, truV_n, truV_i, lenV_t, lenV_s, lenV_l, idxV_t, idxV_s, idxV_l, atI_0, atI_1, atI_2, atI_3, bin_add, bin_sub, bin_mul, bin_div, bin_mod, bin_pow, bin_shl, bin_shr, bin_and, bin_addL, bin_addT, aug_add, aug_sub, aug_mul, cmp_lt, cmp_le, cmp_gt, cmp_ge, cmp_is, cmp_isnt, cmp_eq, cmp_ne, tst_e, wipe_nil, wipe_cons, asg_one, asg_many, asgs_nil, asgs_cons, seqV_t, seqV_s, seqV_l, chkV_t, chkV_l, chkV_s, chkV_a, callG_fn, isCal_fn, isCal_cls, isCalk_fn, callK_fn, frz_nil, puSp_run, bf_len, bf_abs, bf_int, bf_intb, bf_tupT, bf_tupL, bf_listL, bf_listT, bf_min2, bf_max2, bf_isi, slc_l, slc_t, slc_s, fld_i, setB, tabA_hit, isi_tt, isi_ti, isi_ii, isi_it, isi_ib, isi_bi, isi_bb, isi_ss, Cxt.nox, natI_0, natI_1, natI_2, natI_3, natI_4, natI_5, natI_6, natI_7, Bool.not_true, Bool.not_false, decide_true, decide_false, Bool.false_eq_true, if_true, if_false, celQ_set, idxV_set, Sto.set_set, ixN_30, ixN_31, ixN_32, enumV_n, enumV_c, zipV_n, zipV_c, objQ_set, isNon_n, isNon_t, isNon_i, setC_l, dropC_n, dropC_s, dropC_a, cellOf_0, cellOf_s, cellOf_n, frz_cons, frz1_s, frz1_n, sbst_t, sbst_l, sbst_i, sbst_b, sbst_non, sbst_str, sbst_a, sbsts_n, sbsts_c, bin_addLA_set, lenV_set, seqV_set, bf_tupA_set, bmP_app, bmV_app, bf_sum_set, bf_sum_l, asInts_n, asInts_c, Option.map_some, sz_0, sz_1, sz_2, sz_3, sz_4, sz_5, sz_6, sz_7, List.map_cons, List.map_nil, List.length_cons, List.length_nil, List.cons_append, List.nil_append, List.append_nil, List.drop_nil, List.set_cons_zero, List.set_cons_succ, List.replicate_succ, List.replicate_zero, Nat.reduceSub, Nat.reduceAdd, decide_eq_true_eq, true_and, and_true])
/-- a fraction -/
def frV (r : Rat) : Val := .tup [.int r.num, .int r.den]
/-- .. small enough for the model's numbers -/
def Bs9 (n : Nat) : Prop := n < 2 ^ 9000
theorem divW {i : Int} {n : Nat} (h0 : 0 < n) (h : n < 2 ^ 9000) : L2.CDivW i (n : Int) := by
  refine ⟨by omega, ?_⟩
  rw [Int.natAbs_natCast]
  exact (Nat.log2_lt (by omega)).mpr h
/-! ### the greatest common divisor -/
theorem whl_gcd {t : Env → Sto → (Bool → Sto → Prop) → Prop} {body : DE → Env → Sto → Prop} {D : DE} {mk : Int → Int → Env} {S : Sto} (ht : ∀ a b Q, Q (decide (0 < b)) S → t (mk a b) S Q)
    (hb : ∀ a b (D : DE), 0 < b → D.nx (mk b (a % b)) S → body D (mk a b) S) : ∀ (b a : Nat) (n : Nat), b < n → (∀ z : Int, D.nx (mk (Nat.gcd a b) z) S) → whlN t body n D (mk a b) S := by
  intro b
  induction b using Nat.strongRecOn with
  | _ b ih =>
    intro a n hn hD
    obtain ⟨k, rfl⟩ : ∃ k, n = k + 1 := ⟨n - 1, by omega⟩
    refine ht _ _ _ ?_
    by_cases h0 : 0 < b
    · rw [decide_eq_true (by omega : (0 : Int) < (b : Int))]
      refine hb a b _ (by omega) ?_
      have e : ((a : Int) % (b : Int)) = ((a % b : Nat) : Int) := by simp
      rw [e]
      refine ih (a % b) (Nat.mod_lt _ h0) b k (by have := Nat.mod_lt a h0; omega) ?_
      rw [Nat.gcd_comm a b, Nat.gcd_rec] at hD
      rw [Nat.gcd_comm]
      exact hD
    · have e : b = 0 := by omega
      subst e
      rw [decide_eq_false (by omega : ¬ (0 : Int) < ((0 : Nat) : Int))]
      rw [Nat.gcd_zero_right] at hD
      exact hD _
def sp_share_of : ISp := puSp (fun p : Nat × Nat => [.int p.1, .int p.2]) (fun _ => True) fun p => .int (Nat.gcd p.1 p.2)
theorem hsp_share_of {D : Nat → Li.G} {A : Addr → Str → Prop} (vs : List Val) (S : Sto) (Q : VQ) (R : EQ) (hl : vs.length = 2) (h : sp_share_of.run vs S Q R) : evD { D := D, A := A, er := R } Pt.b_share_of 2 [] vs S Q := by
  obtain ⟨⟨a, b⟩, rfl, -, hQ⟩ := h
  unfold Pt.b_share_of
  walk_at "li"
  refine ⟨b + 1, whl_gcd (mk := fun x y => [some (.int x), some (.int y)]) (fun a b Q hQ => ?_) (fun a b D hb hD => ?_) b a _ (by omega) fun z => ?_⟩
  · walk_at "li"
    exact hQ
  · walk_at "li"
    exact ⟨hb, hD⟩
  · walk_at "li"
    exact hQ

/-! ### in lowest terms -/
theorem low_val {t : Int} {n : Nat} (h : 0 < n) : frV (Rat.divInt t n) = .tup [.int (t / (Nat.gcd t.natAbs n : Int)), .int ((n : Int) / (Nat.gcd t.natAbs n : Int))] := by
  unfold frV
  rw [Rat.divInt_ofNat, Rat.num_mkRat, Rat.den_mkRat, if_neg (by omega), if_neg (by omega), Nat.gcd_comm]
  simp
def sp_low : ISp := puSp (fun p : Int × Int => [.int p.1, .int p.2]) (fun p => p.2 ≠ 0 ∧ p.2.natAbs < 2 ^ 9000) fun p => frV (Rat.divInt p.1 p.2)
/-- behind the sign -/
theorem low_end {t : Int} {n : Nat} {S : Sto} {Q : VQ} (h0 : 0 < n) (h9 : n < 2 ^ 9000) (hQ : Q (frV (Rat.divInt t n)) S) :
    L2.CDivW t (Nat.gcd t.natAbs n : Nat) ∧ L2.CDivW (n : Int) (Nat.gcd t.natAbs n : Nat) ∧ Q (.tup [.int (t / (Nat.gcd t.natAbs n : Int)), .int ((n : Int) / (Nat.gcd t.natAbs n : Int))]) S := by
  have hg : 0 < Nat.gcd t.natAbs n := Nat.gcd_pos_of_pos_right _ h0
  have hl : Nat.gcd t.natAbs n ≤ n := Nat.le_of_dvd h0 (Nat.gcd_dvd_right _ _)
  rw [low_val h0] at hQ
  exact ⟨divW hg (by omega), divW hg (by omega), hQ⟩
theorem abs_nat (t : Int) : (if t < 0 then -t else t) = (t.natAbs : Int) := by
  split <;> omega
theorem sz2 {a b : Nat} : a + b ≤ 0 + 1 + 1 → a + b ≤ sizeLine := fun h => Nat.le_trans h (by decide)
theorem szn {n : Nat} (h : n ≤ 100) : n ≤ sizeLine := Nat.le_trans h (by decide)
theorem hsp_low {D : Nat → Li.G} {A : Addr → Str → Prop} (h13 : D 13 = .fn sp_share_of 2 []) (vs : List Val) (S : Sto) (Q : VQ) (R : EQ) (hl : vs.length = 2) (h : sp_low.run vs S Q R) : evD { D := D, A := A, er := R } Pt.b_low 3 [] vs S Q := by
  obtain ⟨⟨t, b⟩, rfl, ⟨hb, h9⟩, hQ⟩ := h
  unfold Pt.b_low
  walk_at "li"
  split
  · rename_i hneg
    obtain ⟨n, hn⟩ : ∃ n : Nat, b = -(n : Int) := ⟨b.natAbs, by omega⟩
    subst hn
    have e1 : (0 : Int) - t = -t := by omega
    have e2 : (0 : Int) - -(n : Int) = n := by omega
    rw [h13]
    walk_at "li"
    rw [e1, e2, abs_nat]
    refine ⟨⟨(-t).natAbs, n⟩, rfl, trivial, ?_⟩
    walk_at "li"
    have e : Rat.divInt t (-(n : Int)) = Rat.divInt (-t) n := Rat.divInt_neg' t n
    simp only [e] at hQ
    exact low_end (by omega) (by simpa using h9) hQ
  · obtain ⟨n, rfl⟩ : ∃ n : Nat, b = (n : Int) := ⟨b.natAbs, by omega⟩
    rw [h13]
    walk_at "li"
    rw [abs_nat]
    refine ⟨⟨t.natAbs, n⟩, rfl, trivial, ?_⟩
    walk_at "li"
    have hb : (n : Int) ≠ 0 := hb
    exact low_end (by omega) (by simpa using h9) hQ
/-- two fractions that may be reckoned with -/
structure Pz (x y : Rat) : Prop where
  d : B2 (x.den * y.den) 9000
  n1 : B2 x.num.natAbs 1000000
  n2 : B2 y.num.natAbs 1000000
theorem Pz.d1 {x y : Rat} (h : Pz x y) : x.den < 2 ^ 9000 := Nat.lt_of_le_of_lt (Nat.le_mul_of_pos_right _ y.den_pos) h.d
theorem Pz.d2 {x y : Rat} (h : Pz x y) : y.den < 2 ^ 9000 := Nat.lt_of_le_of_lt (Nat.le_mul_of_pos_left _ x.den_pos) h.d
theorem Pz.m1 {x y : Rat} (h : Pz x y) : L2.CMulX x.num (y.den : Int) := L2.mulx_ok h.n1 (by rw [Int.natAbs_natCast]; exact h.d2) (by decide)
theorem Pz.m2 {x y : Rat} (h : Pz x y) : L2.CMulX y.num (x.den : Int) := L2.mulx_ok h.n2 (by rw [Int.natAbs_natCast]; exact h.d1) (by decide)
theorem Pz.mm {x y : Rat} (h : Pz x y) : L2.CMulX x.num y.num := L2.mulx_ok h.n1 h.n2 (by decide)
theorem Pz.md {x y : Rat} (h : Pz x y) : L2.CMulX (x.den : Int) (y.den : Int) := L2.mulx_ok (by rw [Int.natAbs_natCast]; exact h.d1) (by rw [Int.natAbs_natCast]; exact h.d2) (by decide)
theorem Pz.ne {x y : Rat} (h : Pz x y) : (x.den : Int) * (y.den : Int) ≠ 0 := by
  have h1 := x.den_pos
  have h2 := y.den_pos
  rw [← Int.natCast_mul]
  have := Nat.mul_pos h1 h2
  omega
theorem Pz.dn {x y : Rat} (h : Pz x y) : ((x.den : Int) * (y.den : Int)).natAbs < 2 ^ 9000 := by
  rw [← Int.natCast_mul, Int.natAbs_natCast]
  exact h.d
def sp_add : ISp := puSp (fun p : Rat × Rat => [frV p.1, frV p.2]) (fun p => Pz p.1 p.2) fun p => frV (p.1 + p.2)
def sp_less : ISp := puSp (fun p : Rat × Rat => [frV p.1, frV p.2]) (fun p => Pz p.1 p.2) fun p => frV (p.1 - p.2)
def sp_mul : ISp := puSp (fun p : Rat × Rat => [frV p.1, frV p.2]) (fun p => Pz p.1 p.2) fun p => frV (p.1 * p.2)
theorem add_div (x y : Rat) : Rat.divInt (x.num * y.den + y.num * x.den) ((x.den : Int) * y.den) = x + y := by
  rw [Rat.add_def', ← Rat.divInt_ofNat, Int.natCast_mul]
theorem sub_div (x y : Rat) : Rat.divInt (x.num * y.den - y.num * x.den) ((x.den : Int) * y.den) = x - y := by
  rw [Rat.sub_def', ← Rat.divInt_ofNat, Int.natCast_mul]
theorem mul_div (x y : Rat) : Rat.divInt (x.num * y.num) ((x.den : Int) * y.den) = x * y := by
  rw [Rat.mul_def', ← Rat.divInt_ofNat, Int.natCast_mul]
theorem hsp_add {D : Nat → Li.G} {A : Addr → Str → Prop} (h14 : D 14 = .fn sp_low 2 []) (vs : List Val) (S : Sto) (Q : VQ) (R : EQ) (hl : vs.length = 2) (h : sp_add.run vs S Q R) : evD { D := D, A := A, er := R } Pt.b_add 2 [] vs S Q := by
  obtain ⟨⟨x, y⟩, rfl, h, hQ⟩ := h
  unfold Pt.b_add frV
  walk_at "li"
  rw [h14]
  walk_at "li"
  exact ⟨h.m1, h.m2, h.md, ⟨_, _⟩, rfl, ⟨h.ne, h.dn⟩, by simpa only [add_div] using hQ⟩
theorem hsp_less {D : Nat → Li.G} {A : Addr → Str → Prop} (h14 : D 14 = .fn sp_low 2 []) (vs : List Val) (S : Sto) (Q : VQ) (R : EQ) (hl : vs.length = 2) (h : sp_less.run vs S Q R) : evD { D := D, A := A, er := R } Pt.b_less 2 [] vs S Q := by
  obtain ⟨⟨x, y⟩, rfl, h, hQ⟩ := h
  unfold Pt.b_less frV
  walk_at "li"
  rw [h14]
  walk_at "li"
  exact ⟨h.m1, h.m2, h.md, ⟨_, _⟩, rfl, ⟨h.ne, h.dn⟩, by simpa only [sub_div] using hQ⟩
theorem hsp_mul {D : Nat → Li.G} {A : Addr → Str → Prop} (h14 : D 14 = .fn sp_low 2 []) (vs : List Val) (S : Sto) (Q : VQ) (R : EQ) (hl : vs.length = 2) (h : sp_mul.run vs S Q R) : evD { D := D, A := A, er := R } Pt.b_mul 2 [] vs S Q := by
  obtain ⟨⟨x, y⟩, rfl, h, hQ⟩ := h
  unfold Pt.b_mul frV
  walk_at "li"
  rw [h14]
  walk_at "li"
  exact ⟨h.mm, h.md, ⟨_, _⟩, rfl, ⟨h.ne, h.dn⟩, by simpa only [mul_div] using hQ⟩

theorem Fz.pz {D E M N : Nat} {x y : Rat} (h : Fz D M x) (g : Fz E N y) (hs : B2 (D * E) 9000) (hm : B2 (M * D) 1000000) (hn : B2 (N * E) 1000000) : Pz x y :=
  ⟨hs.le (Nat.mul_le_mul h.den_le g.den_le), hm.le h.num_le, hn.le g.num_le⟩
theorem frV_zero : frV 0 = .tup [.int 0, .int 1] := rfl
theorem frV_one : frV 1 = .tup [.int 1, .int 1] := rfl
theorem frV_int (i : Int) : frV (i : Rat) = .tup [.int i, .int 1] := rfl
theorem frV_half : frV (1 / 2) = .tup [.int 1, .int 2] := by
  have e : (1 / 2 : Rat) = mkRat 1 2 := by
    rw [Rat.mkRat_eq_div]
    rfl
  rw [e]
  rfl
theorem frV_inj {x y : Rat} (h : frV x = frV y) : x = y := by
  unfold frV at h
  injection h with h
  injection h with h1 h2
  injection h2 with h2 _
  injection h1 with h1
  injection h2 with h2
  exact Rat.ext h1 (by omega)
/-! ### looks -/
def sp_is_whole : ISp := puSp (fun i : Int => [.int i]) (fun _ => True) fun _ => .bl true
theorem hsp_is_whole {D : Nat → Li.G} {A : Addr → Str → Prop} (vs : List Val) (S : Sto) (Q : VQ) (R : EQ) (hl : vs.length = 1) (h : sp_is_whole.run vs S Q R) : evD { D := D, A := A, er := R } Pt.b_is_whole 1 [] vs S Q := by
  obtain ⟨i, rfl, -, hQ⟩ := h
  unfold Pt.b_is_whole
  walk_at "li"
  exact hQ
theorem eqv_ints {i j : Int} {f : Bool → Bool} {S : Sto} {P : Bool → Prop} (h : P (f (decide (i = j)))) : eqV S f (.int i) (.int j) P := by
  show SeqAt.shaped _ = true ∧ SeqAt.shaped _ = true ∧ P (f (PyData.eqv (.int i) (.int j)))
  rw [eqv_int]
  exact ⟨by simp [SeqAt.shaped, PyData.canLay0, PyData.depth], by simp [SeqAt.shaped, PyData.canLay0, PyData.depth], h⟩
def sp_is_fraction : ISp := puSp (fun x : Rat => [frV x]) (fun _ => True) fun _ => .bl true
theorem hsp_is_fraction {D : Nat → Li.G} {A : Addr → Str → Prop} (h12 : D 12 = .fn sp_is_whole 1 []) (h13 : D 13 = .fn sp_share_of 2 []) (vs : List Val) (S : Sto) (Q : VQ) (R : EQ) (hl : vs.length = 1) (h : sp_is_fraction.run vs S Q R) : evD { D := D, A := A, er := R } Pt.b_is_fraction 2 [] vs S Q := by
  obtain ⟨x, rfl, -, hQ⟩ := h
  unfold Pt.b_is_fraction frV
  walk_at "li"
  rw [h12, h13]
  walk_at "li"
  simp only [compL_cons, compL_nil]
  walk_at "li"
  refine ⟨x.num, rfl, trivial, by decide, x.den, rfl, trivial, by decide, ?_⟩
  rw [show ([.bl true, .bl true] : List Val) = [true, true].map Val.bl from rfl, bf_allL]
  walk_at "li"
  rw [show ([true, true].all id) = true from rfl]
  have hd := x.den_pos
  walk_at "li"
  rw [if_pos (by omega), abs_nat]
  refine ⟨⟨x.num.natAbs, x.den⟩, rfl, trivial, ?_⟩
  walk_at "li"
  have e : Nat.gcd x.num.natAbs x.den = 1 := x.reduced
  rw [e]
  exact hQ
def sp_from_zero : ISp := puSp (fun x : Rat => [frV x]) (fun _ => True) fun x => .bl (decide (0 ≤ x.num))
theorem hsp_from_zero {D : Nat → Li.G} {A : Addr → Str → Prop} (h15 : D 15 = .fn sp_is_fraction 1 []) (vs : List Val) (S : Sto) (Q : VQ) (R : EQ) (hl : vs.length = 1) (h : sp_from_zero.run vs S Q R) : evD { D := D, A := A, er := R } Pt.b_from_zero 1 [] vs S Q := by
  obtain ⟨x, rfl, -, hQ⟩ := h
  unfold Pt.b_from_zero frV
  walk_at "li"
  rw [h15]
  walk_at "li"
  refine ⟨x, rfl, trivial, ?_⟩
  walk_at "li"
  exact hQ
def sp_in_one : ISp := puSp (fun x : Rat => [frV x]) (fun _ => True) fun x => .bl (decide (0 ≤ x.num) && decide (x.num ≤ x.den))
theorem hsp_in_one {D : Nat → Li.G} {A : Addr → Str → Prop} (h16 : D 16 = .fn sp_from_zero 1 []) (vs : List Val) (S : Sto) (Q : VQ) (R : EQ) (hl : vs.length = 1) (h : sp_in_one.run vs S Q R) : evD { D := D, A := A, er := R } Pt.b_in_one 1 [] vs S Q := by
  obtain ⟨x, rfl, -, hQ⟩ := h
  unfold Pt.b_in_one frV
  walk_at "li"
  rw [h16]
  walk_at "li"
  refine ⟨x, rfl, trivial, ?_⟩
  walk_at "li"
  dsimp only at hQ
  split
  · rename_i h0
    rw [decide_eq_true h0] at hQ
    exact hQ
  · rename_i h0
    rw [decide_eq_false h0] at hQ ⊢
    exact hQ
/-! ### sums -/
/-- all sums on the way may be reckoned -/
def PzS : Rat → List Rat → Prop
  | _, [] => True
  | a, x :: r => Pz a x ∧ PzS (a + x) r
theorem pzS_of {D M : Nat} (hs : B2 (D * D) 9000) : ∀ {xs : List Rat} {a : Rat} {N : Nat}, Fz D N a → (∀ x ∈ xs, Fz D M x) → B2 ((N + xs.length * M) * D) 1000000 → PzS a xs
  | [], a, N, _, _, _ => trivial
  | x :: r, a, N, ha, hx, hn => by
    rw [List.length_cons] at hn
    have e : N + (r.length + 1) * M = N + M + r.length * M := by grind
    rw [e] at hn
    have q1 : N * D ≤ (N + M + r.length * M) * D := Nat.mul_le_mul_right _ (by omega)
    have q2 : M * D ≤ (N + M + r.length * M) * D := Nat.mul_le_mul_right _ (by omega)
    have gx := hx x List.mem_cons_self
    exact ⟨ha.pz gx hs (hn.le q1) (hn.le q2), pzS_of hs (ha.add gx) (fun y hy => hx y (List.mem_cons_of_mem _ hy)) hn⟩
def sp_total : ISp where
  run := fun vs S Q _ => ∃ (xs : List Rat) (v : Val), vs = [v] ∧ (v = .lst (xs.map frV) ∨ v = .tup (xs.map frV)) ∧ PzS 0 xs ∧ Q (frV (rsum xs)) S
  mono := fun hQ _ ⟨xs, v, h1, h2, h3, h4⟩ => ⟨xs, v, h1, h2, h3, hQ _ _ h4⟩
theorem total_loop {step : Val → DE → Env → Sto → Prop} {chk : Sto → Prop} {v : Val} {S : Sto} {D : DE} (hc : chk S) (hs : ∀ (x a : Rat) (o : Option Val) (nx : DE), Pz a x → (∀ o, nx.nx [some v, some (frV (a + x)), o] S) → step (frV x) nx [some v, some (frV a), o] S) : ∀ (xs : List Rat) (a : Rat) (o : Option Val), PzS a xs → (∀ o, D.nx [some v, some (frV (xs.foldl (· + ·) a)), o] S) → forL step chk (xs.map frV) D [some v, some (frV a), o] S
  | [], a, o, _, h => ⟨hc, h o⟩
  | x :: r, a, o, ⟨h1, h2⟩, h => ⟨hc, hs x a o _ h1 fun o => total_loop hc hs r (a + x) o h2 h⟩
theorem hsp_total {D : Nat → Li.G} {A : Addr → Str → Prop} (h11 : D 11 = .val (.tup ([0, 1].map Val.int))) (h18 : D 18 = .fn sp_add 2 []) (vs : List Val) (S : Sto) (Q : VQ) (R : EQ) (hl : vs.length = 1) (h : sp_total.run vs S Q R) : evD { D := D, A := A, er := R } Pt.b_total 3 [] vs S Q := by
  obtain ⟨xs, v, rfl, hv, hp, hQ⟩ := h
  have key : ∀ chk : Sto → Prop, chk S → forL (fun v D' σ' S' => asg (.one 2) v σ' fun σ2 => evSs { D := D, A := A, er := R } (.cons (.set 1 (.call 18 (.cons (.var 1) (.cons (.var 2) .nil)) 0)) .nil) D' σ2 S') chk (xs.map frV) { nx := evSs { D := D, A := A, er := R } (.cons (.ret (.var 1) []) .nil) { nx := fun σ S' => frz σ [] .non S' Q, rt := Q }, rt := Q } [some v, some (frV 0), none] S := fun chk hc => by
    refine total_loop hc (fun x a o nx hp h => ?_) xs 0 none hp fun o => ?_
    · walk_at "li"
      rw [h18]
      walk_at "li"
      exact ⟨⟨a, x⟩, rfl, hp, h _⟩
    · walk_at "li"
      rw [rsum_foldl, Rat.zero_add]
      exact hQ
  unfold Pt.b_total
  rcases hv with rfl | rfl <;> walk_at "li" <;> rw [h11] <;> simp only [gvalQ_v] <;> exact key _ trivial
end Li
set_option Elab.async false
set_option linter.all false
set_option maxRecDepth 100000
/-! FrL: the laws' own fractions, their purse. -/
namespace Li
open PySem
local macro_rules | `(tactic| walk_at "li") => `(tactic| simp only [evD, evSs, evS, evE, evEs, evI, evO, evIt, slotQ_0, slotQ_s, cloQ_0, cloQ_s, capQ_nil, capQ_cons, intQ_i, adrQ_a, lstQ_l, tupQ_t, dctQ_d, optQ_s, gvalQ_v, brV_s, asL_l, truV_b, truV_n, truV_i, lenV_t, lenV_s, lenV_l, idxV_t, idxV_s, idxV_l, atI_0, atI_1, atI_2, atI_3, bin_add, bin_sub, bin_mul, bin_div, bin_mod, bin_pow, bin_shl, bin_shr, bin_and, bin_addL, bin_addT, aug_add, aug_sub, aug_mul, cmp_lt, cmp_le, cmp_gt, cmp_ge, cmp_is, cmp_isnt, cmp_eq, cmp_ne, tst_e, wipe_nil, wipe_cons, asg_one, asg_many, asgs_nil, asgs_cons, seqV_t, seqV_s, seqV_l, chkV_t, chkV_l, chkV_s, chkV_a, callG_fn, isCal_fn, isCal_cls, isCalk_fn, callK_fn, frz_nil, puSp_run, bf_len, bf_abs, bf_int, bf_intb, bf_tupT, bf_tupL, bf_listL, bf_listT, bf_min2, bf_max2, bf_isi, slc_l, slc_t, slc_s, fld_i, setB, tabA_hit, isi_tt, isi_ti, isi_ii, isi_it, isi_ib, isi_bi, isi_bb, isi_ss, Cxt.nox, natI_0, natI_1, natI_2, natI_3, natI_4, natI_5, natI_6, natI_7, Bool.not_true, Bool.not_false, decide_true, decide_false, Bool.false_eq_true, if_true, if_false, celQ_set, idxV_set, Sto.set_set, ixN_30, ixN_31, ixN_32, enumV_n, enumV_c, zipV_n, zipV_c, objQ_set, isNon_n, isNon_t, isNon_i, setC_l, dropC_n, dropC_s, dropC_a, cellOf_0, cellOf_s, cellOf_n, frz_cons, frz1_s, frz1_n, sbst_t, sbst_l, sbst_i, sbst_b, sbst_non, sbst_str, sbst_a, sbsts_n, sbsts_c, bin_addLA_set, lenV_set, seqV_set, bf_tupA_set, bmP_app, bmV_app, bf_sum_set, bf_sum_l, asInts_n, asInts_c, Option.map_some, sz_0, sz_1, sz_2, sz_3, sz_4, sz_5, sz_6, sz_7, List.map_cons, List.map_nil, List.length_cons, List.length_nil, List.cons_append, List.nil_append, List.append_nil, List.drop_nil, List.set_cons_zero, List.set_cons_succ, List.replicate_succ, List.replicate_zero, Nat.reduceSub, Nat.reduceAdd, decide_eq_true_eq, true_and, and_true])
/-! ### fractions of a law -/
def sp__law_low : ISp := sp_low
theorem whl_gcd2 {t : Env → Sto → (Bool → Sto → Prop) → Prop} {body : DE → Env → Sto → Prop} {D : DE} {mk : Int → Int → Env} {S : Sto} (ht : ∀ a b Q, Q (decide (0 < b)) S → t (mk a b) S Q)
    (hb : ∀ a b (D : DE), 0 < b → D.nx (mk b (a % b)) S → body D (mk a b) S) (a b : Nat) (hD : ∀ z : Int, D.nx (mk (Nat.gcd a b) z) S) : ∃ n, whlN t body n D (mk a b) S := ⟨b + 1, whl_gcd ht hb b a _ (by omega) hD⟩
theorem hsp__law_low {D : Nat → Li.G} {A : Addr → Str → Prop} (vs : List Val) (S : Sto) (Q : VQ) (R : EQ) (hl : vs.length = 2) (h : sp__law_low.run vs S Q R) : evD { D := D, A := A, er := R } Lt.b__law_low 4 [] vs S Q := by
  obtain ⟨⟨t, b⟩, rfl, ⟨hb, h9⟩, hQ⟩ := h
  unfold Lt.b__law_low
  walk_at "li"
  split
  · rename_i hneg
    obtain ⟨n, hn⟩ : ∃ n : Nat, b = -(n : Int) := ⟨b.natAbs, by omega⟩
    subst hn
    have e1 : (0 : Int) - t = -t := by omega
    have e2 : (0 : Int) - -(n : Int) = n := by omega
    rw [e1, e2, abs_nat]
    have e : Rat.divInt t (-(n : Int)) = Rat.divInt (-t) n := Rat.divInt_neg' t n
    simp only [e] at hQ
    refine whl_gcd2 (mk := fun x y => [some (Val.int (-t)), some (Val.int n), some (Val.int x), some (Val.int y)]) (fun a b Q hQ => ?_) (fun a b D hb hD => ?_) (-t).natAbs n fun z => ?_
    · walk_at "li"
      exact hQ
    · walk_at "li"
      exact ⟨hb, hD⟩
    · walk_at "li"
      exact low_end (by omega) (by simpa using h9) hQ
  · obtain ⟨n, rfl⟩ : ∃ n : Nat, b = (n : Int) := ⟨b.natAbs, by omega⟩
    rw [abs_nat]
    have hb : (n : Int) ≠ 0 := hb
    refine whl_gcd2 (mk := fun x y => [some (Val.int (t)), some (Val.int n), some (Val.int x), some (Val.int y)]) (fun a b Q hQ => ?_) (fun a b D hb hD => ?_) (t).natAbs n fun z => ?_
    · walk_at "li"
      exact hQ
    · walk_at "li"
      exact ⟨hb, hD⟩
    · walk_at "li"
      exact low_end (by omega) (by simpa using h9) hQ
def sp__law_plus : ISp := sp_add
def sp__law_minus : ISp := sp_less
def sp__law_times : ISp := sp_mul
theorem hsp__law_plus {D : Nat → Li.G} {A : Addr → Str → Prop} (h14 : D 303 = .fn sp__law_low 2 []) (vs : List Val) (S : Sto) (Q : VQ) (R : EQ) (hl : vs.length = 2) (h : sp__law_plus.run vs S Q R) : evD { D := D, A := A, er := R } Lt.b__law_plus 2 [] vs S Q := by
  obtain ⟨⟨x, y⟩, rfl, h, hQ⟩ := h
  unfold Lt.b__law_plus frV
  walk_at "li"
  rw [h14]
  walk_at "li"
  exact ⟨h.m1, h.m2, h.md, ⟨_, _⟩, rfl, ⟨h.ne, h.dn⟩, by simpa only [add_div] using hQ⟩
theorem hsp__law_minus {D : Nat → Li.G} {A : Addr → Str → Prop} (h14 : D 303 = .fn sp__law_low 2 []) (vs : List Val) (S : Sto) (Q : VQ) (R : EQ) (hl : vs.length = 2) (h : sp__law_minus.run vs S Q R) : evD { D := D, A := A, er := R } Lt.b__law_minus 2 [] vs S Q := by
  obtain ⟨⟨x, y⟩, rfl, h, hQ⟩ := h
  unfold Lt.b__law_minus frV
  walk_at "li"
  rw [h14]
  walk_at "li"
  exact ⟨h.m1, h.m2, h.md, ⟨_, _⟩, rfl, ⟨h.ne, h.dn⟩, by simpa only [sub_div] using hQ⟩
theorem hsp__law_times {D : Nat → Li.G} {A : Addr → Str → Prop} (h14 : D 303 = .fn sp__law_low 2 []) (vs : List Val) (S : Sto) (Q : VQ) (R : EQ) (hl : vs.length = 2) (h : sp__law_times.run vs S Q R) : evD { D := D, A := A, er := R } Lt.b__law_times 2 [] vs S Q := by
  obtain ⟨⟨x, y⟩, rfl, h, hQ⟩ := h
  unfold Lt.b__law_times frV
  walk_at "li"
  rw [h14]
  walk_at "li"
  exact ⟨h.mm, h.md, ⟨_, _⟩, rfl, ⟨h.ne, h.dn⟩, by simpa only [mul_div] using hQ⟩
def sp__law_below : ISp := puSp (fun p : Rat × Rat => [frV p.1, frV p.2]) (fun p => Pz p.1 p.2) fun p => .bl (decide (p.1 < p.2))
theorem hsp__law_below {D : Nat → Li.G} {A : Addr → Str → Prop} (vs : List Val) (S : Sto) (Q : VQ) (R : EQ) (hl : vs.length = 2) (h : sp__law_below.run vs S Q R) : evD { D := D, A := A, er := R } Lt.b__law_below 2 [] vs S Q := by
  obtain ⟨⟨x, y⟩, rfl, h, hQ⟩ := h
  unfold Lt.b__law_below frV
  walk_at "li"
  refine ⟨h.m1, h.m2, ?_⟩
  have e : decide (x < y) = decide (x.num * (y.den : Int) < y.num * (x.den : Int)) := decide_eq_decide.mpr (Rat.lt_iff x y)
  simp only [e] at hQ
  exact hQ
/-! ### the purse -/
/-- a purse: its count is at most n -/
def Pur (S : Sto) (p : Addr) (n : Nat) : Prop := ∃ a b c : Int, S p = some (.lst [.int a, .int b, .int c]) ∧ 0 ≤ b ∧ 0 ≤ c ∧ c ≤ n
theorem Pur.up {S : Sto} {p : Addr} {n m : Nat} (h : Pur S p n) (hm : n ≤ m) : Pur S p m := by
  obtain ⟨a, b, c, h1, h2, h3, h4⟩ := h
  exact ⟨a, b, c, h1, h2, h3, by omega⟩
/-- the store, but for a purse -/
def Ins (S S' : Sto) (p : Addr) : Prop := ∀ a, a ≠ p → S' a = S a
theorem Ins.refl {S : Sto} {p : Addr} : Ins S S p := fun _ _ => rfl
theorem Ins.trans {S S1 S2 : Sto} {p : Addr} (h : Ins S S1 p) (g : Ins S1 S2 p) : Ins S S2 p := fun a ha => (g a ha).trans (h a ha)
/-- from a purse: what is wanted of each thing that may be told -/
def purSp {α : Type} (lim : Nat) (enc : Addr → α → List Val) (pre : α → Prop) (post : α → Val → Prop) (cost : α → Nat) : ISp where
  run := fun vs S Q _ => ∃ p a n, vs = enc p a ∧ Pur S p n ∧ n < 2 ^ lim ∧ pre a ∧ ∀ v S', post a v → Ins S S' p → Pur S' p (n + cost a) → Q v S'
  mono := fun hQ _ ⟨p, a, n, h1, h2, h3, h4, h5⟩ => ⟨p, a, n, h1, h2, h3, h4, fun v S' q1 q2 q3 => hQ _ _ (h5 v S' q1 q2 q3)⟩
theorem Sto.set_ins {S : Sto} {p : Addr} {c : Cell} : Ins S (S.set p c) p := fun a ha => Sto.set_ne ha
def sp__law_purse : ISp where
  run := fun vs S Q _ => ∃ i : Int, vs = [.int i] ∧ ∀ p S', S p = none → Ins S S' p → Pur S' p 0 → Q (.adr p) S'
  mono := fun hQ _ ⟨i, h1, h2⟩ => ⟨i, h1, fun p S' q1 q2 q3 => hQ _ _ (h2 p S' q1 q2 q3)⟩
theorem mulS {i j : Int} {a b : Nat} (hi : i.natAbs < 2 ^ a) (hj : j.natAbs < 2 ^ b) (h : a + b ≤ 134217728) : L2.CMulX i j := L2.mulx_ok hi hj h
theorem hsp__law_purse {D : Nat → Li.G} {A : Addr → Str → Prop} (vs : List Val) (S : Sto) (Q : VQ) (R : EQ) (hl : vs.length = 1) (h : sp__law_purse.run vs S Q R) : evD { D := D, A := A, er := R } Lt.b__law_purse 1 [] vs S Q := by
  obtain ⟨i, rfl, hQ⟩ := h
  unfold Lt.b__law_purse
  walk_at "li"
  have hm : L2.CMulX (i % 999999937) 7001 := mulS (a := 32) (b := 32) (by omega) (by decide) (by decide)
  have hp : L2.CPow 10 18 := ⟨by decide, by decide, by decide⟩
  refine ⟨by omega, hm, hp, ?_⟩
  split
  · rename_i h
    refine fun a ha => hQ a _ ha Sto.set_ins ⟨_, _, _, Sto.set_same, ?_, by omega, by omega⟩
    have e : (10 : Int) ^ (18 : Int).toNat = 1000000000000000000 := by decide
    rw [e] at h
    omega
  · exact fun a ha => hQ a _ ha Sto.set_ins ⟨_, _, _, Sto.set_same, by omega, by omega, by omega⟩
def sp__law_pick : ISp := purSp 70 (fun p (m : Int) => [.adr p, .int m]) (fun m => 0 < m ∧ m < 2 ^ 200) (fun m v => ∃ t : Int, v = .int t ∧ 0 ≤ t ∧ t < m) fun _ => 1
theorem hsp__law_pick {D : Nat → Li.G} {A : Addr → Str → Prop} (vs : List Val) (S : Sto) (Q : VQ) (R : EQ) (hl : vs.length = 2) (h : sp__law_pick.run vs S Q R) : evD { D := D, A := A, er := R } Lt.b__law_pick 4 [] vs S Q := by
  obtain ⟨p, m, n, rfl, ⟨a, b, c, hp, hb, hc, hn⟩, h64, ⟨hm, hm2⟩, hQ⟩ := h
  unfold Lt.b__law_pick
  walk_at "li"
  rw [idxV_a hp]
  walk_at "li"
  rw [celQ_h hp]
  walk_at "li"
  have q1 : L2.CMulX (a % 999999937) (a % 999999937 % 50021 + 20011) := mulS (a := 32) (b := 32) (by omega) (by omega) (by decide)
  have q2 : L2.CMulX 90001 (c + 1) := mulS (a := 32) (b := 72) (by decide) (by omega) (by decide)
  refine ⟨by omega, by omega, q1, q2, ?_⟩
  have hS : ∀ (x y : Int), Ins S (S.set p (.lst [.int x, .int y, .int (c + 1)])) p := fun _ _ => Sto.set_ins
  split
  · rename_i h0
    have q3 : L2.CDivW b m := ⟨hm, by
      have e : m.natAbs < 2 ^ 200 := by omega
      have := (Nat.log2_lt (n := m.natAbs) (k := 200) (by omega)).mpr e
      omega⟩
    refine ⟨hm, q3, ?_⟩
    exact hQ _ _ ⟨_, rfl, Int.emod_nonneg _ (by omega), Int.emod_lt_of_pos _ hm⟩ (hS _ _) ⟨_, _, _, Sto.set_same, Int.ediv_nonneg hb (by omega), by omega, by simp only []; omega⟩
  · rename_i h0
    have q3 : ∀ i, L2.CDivW i 16 := fun i => ⟨by decide, by decide⟩
    refine ⟨by omega, q3 _, hm, ?_⟩
    exact hQ _ _ ⟨_, rfl, Int.emod_nonneg _ (by omega), Int.emod_lt_of_pos _ hm⟩ (hS _ _) ⟨_, _, _, Sto.set_same, hb, by omega, by simp only []; omega⟩
end Li
set_option Elab.async false
set_option linter.all false
set_option maxRecDepth 100000
/-! Sh: Shades, how far they are. -/
namespace Li
open PySem
local macro_rules | `(tactic| walk_at "li") => `(tactic| simp only [evD, evSs, evS, evE, evEs, evI, evO, evIt, slotQ_0, slotQ_s, cloQ_0, cloQ_s, capQ_nil, capQ_cons, intQ_i, adrQ_a, lstQ_l, tupQ_t, dctQ_d, optQ_s, gvalQ_v, brV_s, asL_l, truV_b, truV_n, truV_i, lenV_t, lenV_s, lenV_l, idxV_t, idxV_s, idxV_l, atI_0, atI_1, atI_2, atI_3, bin_add, bin_sub, bin_mul, bin_div, bin_mod, bin_pow, bin_shl, bin_shr, bin_and, bin_addL, bin_addT, aug_add, aug_sub, aug_mul, cmp_lt, cmp_le, cmp_gt, cmp_ge, cmp_is, cmp_isnt, cmp_eq, cmp_ne, tst_e, wipe_nil, wipe_cons, asg_one, asg_many, asgs_nil, asgs_cons, seqV_t, seqV_s, seqV_l, chkV_t, chkV_l, chkV_s, chkV_a, callG_fn, isCal_fn, isCal_cls, isCalk_fn, callK_fn, frz_nil, puSp_run, bf_len, bf_abs, bf_int, bf_intb, bf_tupT, bf_tupL, bf_listL, bf_listT, bf_min2, bf_max2, bf_isi, slc_l, slc_t, slc_s, fld_i, setB, tabA_hit, isi_tt, isi_ti, isi_ii, isi_it, isi_ib, isi_bi, isi_bb, isi_ss, Cxt.nox, natI_0, natI_1, natI_2, natI_3, natI_4, natI_5, natI_6, natI_7, Bool.not_true, Bool.not_false, decide_true, decide_false, Bool.false_eq_true, if_true, if_false, celQ_set, idxV_set, Sto.set_set, ixN_30, ixN_31, ixN_32, enumV_n, enumV_c, zipV_n, zipV_c, objQ_set, isNon_n, isNon_t, isNon_i, setC_l, dropC_n, dropC_s, dropC_a, cellOf_0, cellOf_s, cellOf_n, frz_cons, frz1_s, frz1_n, sbst_t, sbst_l, sbst_i, sbst_b, sbst_non, sbst_str, sbst_a, sbsts_n, sbsts_c, bin_addLA_set, lenV_set, seqV_set, bf_tupA_set, bmP_app, bmV_app, bf_sum_set, bf_sum_l, asInts_n, asInts_c, Option.map_some, sz_0, sz_1, sz_2, sz_3, sz_4, sz_5, sz_6, sz_7, List.map_cons, List.map_nil, List.length_cons, List.length_nil, List.cons_append, List.nil_append, List.append_nil, List.drop_nil, List.set_cons_zero, List.set_cons_succ, List.replicate_succ, List.replicate_zero, Nat.reduceSub, Nat.reduceAdd, decide_eq_true_eq, true_and, and_true])
abbrev T3 : Type := Rat × Rat × Rat
def trV (t : T3) : Val := .tup [frV t.1, frV t.2.1, frV t.2.2]
def shadeF : List Str := [("ember" : Str), ("leaf" : Str), ("sky" : Str)]
def shV (C : Addr) (t : T3) : Val := .ins C shadeF [frV t.1, frV t.2.1, frV t.2.2]
def In1 (x : Rat) : Prop := 0 ≤ x ∧ x ≤ 1
def In3 (t : T3) : Prop := In1 t.1 ∧ In1 t.2.1 ∧ In1 t.2.2
theorem in1_b {x : Rat} : In1 x ↔ (decide (0 ≤ x.num) && decide (x.num ≤ x.den)) = true := by
  unfold In1
  rw [Bool.and_eq_true, decide_eq_true_eq, decide_eq_true_eq, Rat.num_nonneg, Rat.le_iff (a := x) (b := 1)]
  simp
theorem call_in_one {x : Rat} {S : Sto} {Q : VQ} {er : EQ} (h : In1 x) (hQ : Q (.bl true) S) : sp_in_one.run [frV x] S Q er := ⟨x, rfl, trivial, by dsimp only; rw [in1_b.mp h]; exact hQ⟩
theorem call_add {x y : Rat} {S : Sto} {Q : VQ} {er : EQ} (h : Pz x y) (hQ : Q (frV (x + y)) S) : sp_add.run [frV x, frV y] S Q er := ⟨(x, y), rfl, h, hQ⟩
theorem call_less {x y : Rat} {S : Sto} {Q : VQ} {er : EQ} (h : Pz x y) (hQ : Q (frV (x - y)) S) : sp_less.run [frV x, frV y] S Q er := ⟨(x, y), rfl, h, hQ⟩
theorem call_mul {x y : Rat} {S : Sto} {Q : VQ} {er : EQ} (h : Pz x y) (hQ : Q (frV (x * y)) S) : sp_mul.run [frV x, frV y] S Q er := ⟨(x, y), rfl, h, hQ⟩
theorem call_totalL {xs : List Rat} {S : Sto} {Q : VQ} {er : EQ} (h : PzS 0 xs) (hQ : Q (frV (rsum xs)) S) : sp_total.run [.lst (xs.map frV)] S Q er := ⟨xs, _, rfl, .inl rfl, h, hQ⟩
theorem putV_len {f : Str} {v : Val} : ∀ {l : List (Str × Val)}, (putV f v l).length ≤ l.length + 1
  | [] => Nat.le_refl _
  | (g, u) :: r => by
    unfold putV
    split
    · simp
    · have := putV_len (f := f) (v := v) (l := r)
      simp only [List.length_cons]
      omega
def sp_Shade___init__ (C : Addr) : ISp where
  run := fun vs S Q _ => ∃ (x : Addr) (t : T3), vs = [.adr x, frV t.1, frV t.2.1, frV t.2.2] ∧ S x = some (.obj C []) ∧ In3 t ∧ Q .non (S.set x (.obj C [(("ember" : Str), frV t.1), (("leaf" : Str), frV t.2.1), (("sky" : Str), frV t.2.2)]))
  mono := fun hQ _ ⟨x, t, h1, h2, h3, h4⟩ => ⟨x, t, h1, h2, h3, hQ _ _ h4⟩
theorem hsp_Shade___init__ {C : Addr} {D : Nat → Li.G} {A : Addr → Str → Prop} (h17 : D 17 = .fn sp_in_one 1 []) (hA : ∀ f ∈ shadeF, A C f) (vs : List Val) (S : Sto) (Q : VQ) (R : EQ) (hl : vs.length = 4) (h : (sp_Shade___init__ C).run vs S Q R) : evD { D := D, A := A, er := R } Pt.b_Shade.__init__ 6 [] vs S Q := by
  obtain ⟨x, t, rfl, hS, ⟨h1, h2, h3⟩, hQ⟩ := h
  have a1 := hA ("ember" : Str) (by simp [shadeF])
  have a2 := hA ("leaf" : Str) (by simp [shadeF])
  have a3 := hA ("sky" : Str) (by simp [shadeF])
  unfold Pt.b_Shade.__init__
  walk_at "li"
  rw [h17]
  simp only [forL_cons, forL_nil]
  walk_at "li"
  refine call_in_one h1 ?_
  walk_at "li"
  refine call_in_one h2 ?_
  walk_at "li"
  refine call_in_one h3 ?_
  walk_at "li"
  rw [objQ_h hS]
  have q1 := putV_len (f := ("ember" : Str)) (v := frV t.1) (l := [])
  have q2 := putV_len (f := ("leaf" : Str)) (v := frV t.2.1) (l := putV ("ember" : Str) (frV t.1) [])
  simp only [List.length_nil] at q1
  exact ⟨a1, by decide, a2, by omega, a3, by omega, hQ⟩
/-- a Shade made -/
theorem make_Shade {C : Addr} {t : T3} {S : Sto} {Q : VQ} {er : EQ} (h : In3 t) (hQ : Q (shV C t) S) : callG (.cls C true (sp_Shade___init__ C) 4 []) [frV t.1, frV t.2.1, frV t.2.2] 0 S Q er := by
  refine ⟨rfl, fun x hx => ⟨x, t, rfl, Sto.set_same, h, rfl, _, Sto.set_same, ?_⟩⟩
  rw [if_pos rfl, Sto.set_set, Sto.set_del hx]
  exact hQ
def sp_is_shade (C : Addr) : ISp := puSp (fun t : T3 => [shV C t]) (fun _ => True) fun _ => .bl true
theorem hsp_is_shade {C : Addr} {D : Nat → Li.G} {A : Addr → Str → Prop} (h24 : D 24 = .cls C true (sp_Shade___init__ C) 4 []) (vs : List Val) (S : Sto) (Q : VQ) (R : EQ) (hl : vs.length = 1) (h : (sp_is_shade C).run vs S Q R) : evD { D := D, A := A, er := R } Pt.b_is_shade 1 [] vs S Q := by
  obtain ⟨t, rfl, -, hQ⟩ := h
  unfold Pt.b_is_shade shV
  walk_at "li"
  rw [isi_c h24]
  exact hQ
def sp_check_shade (C : Addr) : ISp := puSp (fun t : T3 => [shV C t]) (fun _ => True) fun _ => .non
theorem hsp_check_shade {C : Addr} {D : Nat → Li.G} {A : Addr → Str → Prop} (h24 : D 24 = .cls C true (sp_Shade___init__ C) 4 []) (vs : List Val) (S : Sto) (Q : VQ) (R : EQ) (hl : vs.length = 1) (h : (sp_check_shade C).run vs S Q R) : evD { D := D, A := A, er := R } Pt.b_check_shade 1 [] vs S Q := by
  obtain ⟨t, rfl, -, hQ⟩ := h
  unfold Pt.b_check_shade shV
  walk_at "li"
  rw [isi_c h24]
  walk_at "li"
  exact hQ
theorem look_e {a b c : Val} : (shadeF.zip [a, b, c]).lookup ("ember" : Str) = some a := rfl
theorem look_l {a b c : Val} : (shadeF.zip [a, b, c]).lookup ("leaf" : Str) = some b := by
  unfold shadeF
  rw [List.zip_cons_cons, List.lookup_cons, show (("leaf" : Str) == ("ember" : Str)) = false by decide]
  rfl
theorem look_s {a b c : Val} : (shadeF.zip [a, b, c]).lookup ("sky" : Str) = some c := by
  unfold shadeF
  rw [List.zip_cons_cons, List.lookup_cons, show (("sky" : Str) == ("ember" : Str)) = false by decide, List.zip_cons_cons]
  show List.lookup _ _ = _
  rw [List.lookup_cons, show (("sky" : Str) == ("leaf" : Str)) = false by decide]
  rfl
def sp_parts_of (C : Addr) : ISp := puSp (fun t : T3 => [shV C t]) (fun _ => True) trV
theorem hsp_parts_of {C : Addr} {D : Nat → Li.G} {A : Addr → Str → Prop} (hA : ∀ f ∈ shadeF, A C f) (vs : List Val) (S : Sto) (Q : VQ) (R : EQ) (hl : vs.length = 1) (h : (sp_parts_of C).run vs S Q R) : evD { D := D, A := A, er := R } Pt.b_parts_of 1 [] vs S Q := by
  obtain ⟨t, rfl, -, hQ⟩ := h
  have a1 := hA ("ember" : Str) (by simp [shadeF])
  have a2 := hA ("leaf" : Str) (by simp [shadeF])
  have a3 := hA ("sky" : Str) (by simp [shadeF])
  unfold Pt.b_parts_of shV
  walk_at "li"
  rw [look_e, look_l, look_s]
  exact ⟨a1, a2, a3, hQ⟩
def sp_shade_by (C : Addr) : ISp := puSp (fun t : T3 => [trV t]) In3 (shV C)
theorem hsp_shade_by {C : Addr} {D : Nat → Li.G} {A : Addr → Str → Prop} (h24 : D 24 = .cls C true (sp_Shade___init__ C) 4 []) (vs : List Val) (S : Sto) (Q : VQ) (R : EQ) (hl : vs.length = 1) (h : (sp_shade_by C).run vs S Q R) : evD { D := D, A := A, er := R } Pt.b_shade_by 1 [] vs S Q := by
  obtain ⟨t, rfl, h, hQ⟩ := h
  unfold Pt.b_shade_by trV
  walk_at "li"
  rw [h24]
  exact ⟨trivial, make_Shade h hQ⟩
def sp__law_shade (C : Addr) : ISp := sp_shade_by C
theorem hsp__law_shade {C : Addr} {D : Nat → Li.G} {A : Addr → Str → Prop} (h24 : D 24 = .cls C true (sp_Shade___init__ C) 4 []) (vs : List Val) (S : Sto) (Q : VQ) (R : EQ) (hl : vs.length = 1) (h : (sp__law_shade C).run vs S Q R) : evD { D := D, A := A, er := R } Lt.b__law_shade 1 [] vs S Q := by
  obtain ⟨t, rfl, h, hQ⟩ := h
  unfold Lt.b__law_shade trV
  walk_at "li"
  rw [h24]
  exact ⟨trivial, make_Shade h hQ⟩
end Li
set_option Elab.async false
set_option linter.all false
set_option maxRecDepth 100000
/-! Ey: eyes, how far Shades are. -/
namespace Li
open PySem
local macro_rules | `(tactic| walk_at "li") => `(tactic| simp only [evD, evSs, evS, evE, evEs, evI, evO, evIt, slotQ_0, slotQ_s, cloQ_0, cloQ_s, capQ_nil, capQ_cons, intQ_i, adrQ_a, lstQ_l, tupQ_t, dctQ_d, optQ_s, gvalQ_v, brV_s, asL_l, truV_b, truV_n, truV_i, lenV_t, lenV_s, lenV_l, idxV_t, idxV_s, idxV_l, atI_0, atI_1, atI_2, atI_3, bin_add, bin_sub, bin_mul, bin_div, bin_mod, bin_pow, bin_shl, bin_shr, bin_and, bin_addL, bin_addT, aug_add, aug_sub, aug_mul, cmp_lt, cmp_le, cmp_gt, cmp_ge, cmp_is, cmp_isnt, cmp_eq, cmp_ne, tst_e, wipe_nil, wipe_cons, asg_one, asg_many, asgs_nil, asgs_cons, seqV_t, seqV_s, seqV_l, chkV_t, chkV_l, chkV_s, chkV_a, callG_fn, isCal_fn, isCal_cls, isCalk_fn, callK_fn, frz_nil, puSp_run, bf_len, bf_abs, bf_int, bf_intb, bf_tupT, bf_tupL, bf_listL, bf_listT, bf_min2, bf_max2, bf_isi, slc_l, slc_t, slc_s, fld_i, setB, tabA_hit, isi_tt, isi_ti, isi_ii, isi_it, isi_ib, isi_bi, isi_bb, isi_ss, Cxt.nox, natI_0, natI_1, natI_2, natI_3, natI_4, natI_5, natI_6, natI_7, Bool.not_true, Bool.not_false, decide_true, decide_false, Bool.false_eq_true, if_true, if_false, celQ_set, idxV_set, Sto.set_set, ixN_30, ixN_31, ixN_32, enumV_n, enumV_c, zipV_n, zipV_c, objQ_set, isNon_n, isNon_t, isNon_i, setC_l, dropC_n, dropC_s, dropC_a, cellOf_0, cellOf_s, cellOf_n, frz_cons, frz1_s, frz1_n, sbst_t, sbst_l, sbst_i, sbst_b, sbst_non, sbst_str, sbst_a, sbsts_n, sbsts_c, bin_addLA_set, lenV_set, seqV_set, bf_tupA_set, bmP_app, bmV_app, bf_sum_set, bf_sum_l, asInts_n, asInts_c, Option.map_some, sz_0, sz_1, sz_2, sz_3, sz_4, sz_5, sz_6, sz_7, List.map_cons, List.map_nil, List.length_cons, List.length_nil, List.cons_append, List.nil_append, List.append_nil, List.drop_nil, List.set_cons_zero, List.set_cons_succ, List.replicate_succ, List.replicate_zero, Nat.reduceSub, Nat.reduceAdd, decide_eq_true_eq, true_and, and_true])
/-! ### sizes -/
/-- an eye -/
abbrev E3 : Type := Int × Int × Int
def eyV (e : E3) : Val := .tup [.int e.1, .int e.2.1, .int e.2.2]
def Eye1 (i : Int) : Prop := 1 ≤ i ∧ i ≤ 99
def Eye3 (e : E3) : Prop := Eye1 e.1 ∧ Eye1 e.2.1 ∧ Eye1 e.2.2
def sp_is_eye : ISp := puSp (fun e : E3 => [eyV e]) Eye3 fun _ => .bl true
theorem call_whole {i : Int} {S : Sto} {Q : VQ} {er : EQ} (hQ : Q (.bl true) S) : sp_is_whole.run [.int i] S Q er := ⟨i, rfl, trivial, hQ⟩
theorem hsp_is_eye {D : Nat → Li.G} {A : Addr → Str → Prop} (h12 : D 12 = .fn sp_is_whole 1 []) (h28 : D 28 = .val (.int 99)) (h29 : D 29 = .val (.tup ([1, 1, 1].map Val.int))) (vs : List Val) (S : Sto) (Q : VQ) (R : EQ) (hl : vs.length = 1) (h : sp_is_eye.run vs S Q R) : evD { D := D, A := A, er := R } Pt.b_is_eye 2 [] vs S Q := by
  obtain ⟨e, rfl, ⟨⟨h1, h1'⟩, ⟨h2, h2'⟩, ⟨h3, h3'⟩⟩, hQ⟩ := h
  unfold Pt.b_is_eye eyV
  walk_at "li"
  rw [h12, h28, h29]
  walk_at "li"
  simp only [compL_cons, compL_nil]
  walk_at "li"
  refine call_whole ?_
  walk_at "li"
  rw [if_pos h1, decide_eq_true h1']
  refine ⟨by decide, call_whole ?_⟩
  walk_at "li"
  rw [if_pos h2, decide_eq_true h2']
  refine ⟨by decide, call_whole ?_⟩
  walk_at "li"
  rw [if_pos h3, decide_eq_true h3']
  refine ⟨by decide, ?_⟩
  rw [show ([.bl true, .bl true, .bl true] : List Val) = [true, true, true].map Val.bl from rfl, bf_allL]
  exact hQ
def sp_check_eye : ISp := puSp (fun e : E3 => [eyV e]) Eye3 eyV
theorem hsp_check_eye {D : Nat → Li.G} {A : Addr → Str → Prop} (h29 : D 29 = .val (.tup ([1, 1, 1].map Val.int))) (h30 : D 30 = .fn sp_is_eye 1 []) (vs : List Val) (S : Sto) (Q : VQ) (R : EQ) (hl : vs.length = 1) (h : sp_check_eye.run vs S Q R) : evD { D := D, A := A, er := R } Pt.b_check_eye 1 [] vs S Q := by
  obtain ⟨e, rfl, h, hQ⟩ := h
  unfold Pt.b_check_eye eyV
  walk_at "li"
  rw [h30]
  walk_at "li"
  refine ⟨e, rfl, h, ?_⟩
  walk_at "li"
  exact hQ
/-! ### how far -/
def Fz3 (D M : Nat) (t : T3) : Prop := Fz D M t.1 ∧ Fz D M t.2.1 ∧ Fz D M t.2.2
def dist (e : E3) (a b : T3) : Rat := rsum [(e.1 : Rat) * ((a.1 - b.1) * (a.1 - b.1)), (e.2.1 : Rat) * ((a.2.1 - b.2.1) * (a.2.1 - b.2.1)), (e.2.2 : Rat) * ((a.2.2 - b.2.2) * (a.2.2 - b.2.2))]
/-- sizes with which squares may be reckoned -/
structure Bd (D M : Nat) : Prop where
  d : B2 (D * D * (D * D)) 9000
  m : B2 M 1000
theorem Bd.dd {D M : Nat} (b : Bd D M) (h0 : 0 < D) : B2 (D * D) 9000 := b.d.le (Nat.le_mul_of_pos_right _ (Nat.mul_pos h0 h0))
theorem Bd.d1 {D M : Nat} (b : Bd D M) (h0 : 0 < D) : B2 D 9000 := (b.dd h0).le (Nat.le_mul_of_pos_right _ h0)
/-- a difference, squared, weighed -/
structure SqOk (D M : Nat) (e : Int) (x y : Rat) : Prop where
  s : Pz x y
  q : Pz (x - y) (x - y)
  w : Pz (e : Rat) ((x - y) * (x - y))
  f : Fz (D * D) (99 * ((M + M) * (M + M))) ((e : Rat) * ((x - y) * (x - y)))
theorem eyeF {e : Int} (h : Eye1 e) : Fz 1 99 (e : Rat) := (Fz.int e (by decide)).up (by
  obtain ⟨h1, h2⟩ := h
  omega)
theorem mulOk {D M : Nat} {e : Int} {x y : Rat} (b : Bd D M) (he : Eye1 e) (hx : Fz D M x) (hy : Fz D M y) : Pz x y ∧ Pz (e : Rat) (x * y) ∧ Fz (D * D) (99 * (M * M)) ((e : Rat) * (x * y)) := by
  have hm : B2 (M * D) 1000000 := (b.m.mul (b.d1 hx.1)).mono (by decide)
  have q := hx.mul hy
  have hw : B2 (M * M * (D * D)) 1000000 := ((b.m.mul b.m).mul (b.dd hx.1)).mono (by decide)
  have f := (eyeF he).mul q
  rw [Nat.one_mul] at f
  exact ⟨hx.pz hy (b.dd hx.1) hm hm, (eyeF he).pz q (by rw [Nat.one_mul]; exact b.dd hx.1) (show B2 (99 * 1) 1000000 from B2.mono (a := 7) (by unfold B2; decide) (by decide)) hw, f⟩
theorem sqOk {D M : Nat} {e : Int} {x y : Rat} (bd : B2 (D * D * (D * D)) 9000) (bm : B2 M 900) (he : Eye1 e) (hx : Fz D M x) (hy : Fz D M y) : SqOk D M e x y := by
  have b : Bd D M := ⟨bd, bm.mono (by decide)⟩
  have b2 : Bd D (M + M) := ⟨bd, (bm.add bm).mono (by decide)⟩
  have h := hx.sub hy
  obtain ⟨q1, q2, q3⟩ := mulOk b2 he h h
  have hm : B2 (M * D) 1000000 := (b.m.mul (b.d1 hx.1)).mono (by decide)
  exact ⟨hx.pz hy (b.dd hx.1) hm hm, q1, q2, q3⟩
/-- three of them together -/
theorem sum3Ok {D M : Nat} {x y z : Rat} (bd : B2 (D * D * (D * D)) 9000) (bm : B2 M 2100) (hx : Fz (D * D) (99 * M) x) (hy : Fz (D * D) (99 * M) y) (hz : Fz (D * D) (99 * M) z) : PzS 0 [x, y, z] := by
  have h0 := hx.1
  refine pzS_of (D := D * D) (M := 99 * M) (N := 0) bd (Fz.zero h0) (fun u hu => ?_) ?_
  · rcases List.mem_cons.mp hu with rfl | hu
    · exact hx
    · rcases List.mem_cons.mp hu with rfl | hu
      · exact hy
      · rw [List.mem_singleton.mp hu]
        exact hz
  · have e : B2 (3 * (99 * M) * (D * D)) 1000000 := by
      have d1 : B2 (D * D) 9000 := bd.le (Nat.le_mul_of_pos_right _ h0)
      have q := (((show B2 3 2 by unfold B2; decide).mul ((show B2 99 7 by unfold B2; decide).mul bm)).mul d1)
      exact q.mono (by decide)
    have : (0 + [x, y, z].length * (99 * M)) = 3 * (99 * M) := by simp
    rw [this]
    exact e
theorem eyV_0 {e : E3} : (L2.atI [Val.int e.1, Val.int e.2.1, Val.int e.2.2] 0) = some (.int e.1) := rfl
/-- how far, where sizes are right -/
structure DistOk (e : E3) (a b : T3) : Prop where
  ex : ∃ D M, B2 (D * D * (D * D)) 9000 ∧ B2 M 900 ∧ Fz3 D M a ∧ Fz3 D M b ∧ Eye3 e
def sp_far_by_part : ISp where
  run := fun vs S Q _ => ∃ (k : Int) (i : Int) (e : E3) (a b : T3) (x y : Rat) (D M : Nat), vs = [.int k, eyV e, trV a, trV b] ∧ L2.atI [Val.int e.1, Val.int e.2.1, Val.int e.2.2] k = some (.int i) ∧ L2.atI [frV a.1, frV a.2.1, frV a.2.2] k = some (frV x) ∧ L2.atI [frV b.1, frV b.2.1, frV b.2.2] k = some (frV y) ∧ SqOk D M i x y ∧ Q (frV ((i : Rat) * ((x - y) * (x - y)))) S
  mono := fun hQ _ ⟨k, i, e, a, b, x, y, D, M, h1, h2, h3, h4, h5, h6⟩ => ⟨k, i, e, a, b, x, y, D, M, h1, h2, h3, h4, h5, hQ _ _ h6⟩
theorem hsp_far_by_part {D : Nat → Li.G} {A : Addr → Str → Prop} (h19 : D 19 = .fn sp_less 2 []) (h20 : D 20 = .fn sp_mul 2 []) (h22 : D 22 = .fn sp_total 1 []) (vs : List Val) (S : Sto) (Q : VQ) (R : EQ) (hl : vs.length = 4) (h : sp_far_by_part.run vs S Q R) : evD { D := D, A := A, er := R } Pt.nb_far_by_part 5 [] vs S Q := by
  obtain ⟨k, i, e, a, b, x, y, D', M', rfl, hi, hx, hy, ok, hQ⟩ := h
  unfold Pt.nb_far_by_part eyV trV
  walk_at "li"
  rw [h19, h20, hi, hx, hy]
  walk_at "li"
  refine call_less ok.s ?_
  refine call_mul ok.q ?_
  exact call_mul (x := (i : Rat)) ok.w hQ
def sp_far_by : ISp := puSp (fun p : E3 × T3 × T3 => [trV p.2.1, trV p.2.2, eyV p.1]) (fun p => DistOk p.1 p.2.1 p.2.2) fun p => frV (dist p.1 p.2.1 p.2.2)
theorem hsp_far_by {D : Nat → Li.G} {A : Addr → Str → Prop} {L : Nat → LF} {ok : NdefX.NF → Prop} (h19 : D 19 = .fn sp_less 2 []) (h20 : D 20 = .fn sp_mul 2 []) (h22 : D 22 = .fn sp_total 1 []) (hL : L 0 = ⟨ok, 1, [2, 0, 1], sp_far_by_part⟩) (vs : List Val) (S : Sto) (Q : VQ) (R : EQ) (hl : vs.length = 3) (h : sp_far_by.run vs S Q R) : evD { D := D, A := A, er := R, L := L } Pt.b_far_by 5 [] vs S Q := by
  obtain ⟨⟨e, a, b⟩, rfl, ⟨D', M', bd, bm, ⟨a1, a2, a3⟩, ⟨b1, b2, b3⟩, ⟨e1, e2, e3⟩⟩, hQ⟩ := h
  have s1 := sqOk bd bm e1 a1 b1
  have s2 := sqOk bd bm e2 a2 b2
  have s3 := sqOk bd bm e3 a3 b3
  unfold Pt.b_far_by
  walk_at "li"
  rw [hL, h22]
  intro f F hF hf
  have hlen : lenV S (eyV e) = some 3 := rfl
  walk_at "li"
  rw [hlen]
  walk_at "li"
  rw [rng3]
  simp only [compL_cons, compL_nil]
  walk_at "li"
  refine ⟨by decide, hF, ⟨0, e.1, e, a, b, a.1, b.1, D', M', rfl, rfl, rfl, rfl, s1, by decide, hF, ⟨1, e.2.1, e, a, b, a.2.1, b.2.1, D', M', rfl, rfl, rfl, rfl, s2, by decide, hF, ⟨2, e.2.2, e, a, b, a.2.2, b.2.2, D', M', rfl, rfl, rfl, rfl, s3, by decide, ?_⟩⟩⟩⟩
  refine call_totalL (xs := [_, _, _]) ?_ hQ
  exact sum3Ok bd (((bm.add bm).mul (bm.add bm)).mono (by decide)) s1.f s2.f s3.f
def sp_far (C : Addr) : ISp := puSp (fun p : E3 × T3 × T3 => [shV C p.2.1, shV C p.2.2, eyV p.1]) (fun p => DistOk p.1 p.2.1 p.2.2) fun p => frV (dist p.1 p.2.1 p.2.2)
theorem hsp_far {C : Addr} {D : Nat → Li.G} {A : Addr → Str → Prop} (h25 : D 25 = .fn (sp_check_shade C) 1 []) (h26 : D 26 = .fn (sp_parts_of C) 1 []) (h31 : D 31 = .fn sp_check_eye 1 []) (h32 : D 32 = .fn sp_far_by 3 []) (vs : List Val) (S : Sto) (Q : VQ) (R : EQ) (hl : vs.length = 3) (h : (sp_far C).run vs S Q R) : evD { D := D, A := A, er := R } Pt.b_far 3 [] vs S Q := by
  obtain ⟨⟨e, a, b⟩, rfl, h, hQ⟩ := h
  have he : Eye3 e := by
    obtain ⟨_, _, _, _, _, _, he⟩ := h
    exact he
  unfold Pt.b_far
  walk_at "li"
  rw [h25, h26, h31, h32]
  walk_at "li"
  refine ⟨a, rfl, trivial, b, rfl, trivial, a, rfl, trivial, b, rfl, trivial, e, rfl, he, ⟨e, a, b⟩, rfl, h, hQ⟩
end Li
set_option Elab.async false
set_option linter.all false
set_option maxRecDepth 100000
/-! Lg: lights: looks, gaps, what parts make, the common bottom, products. -/
namespace Li
open PySem
local macro_rules | `(tactic| walk_at "li") => `(tactic| simp only [evD, evSs, evS, evE, evEs, evI, evO, evIt, slotQ_0, slotQ_s, cloQ_0, cloQ_s, capQ_nil, capQ_cons, intQ_i, adrQ_a, lstQ_l, tupQ_t, dctQ_d, optQ_s, gvalQ_v, brV_s, asL_l, truV_b, truV_n, truV_i, lenV_t, lenV_s, lenV_l, idxV_t, idxV_s, idxV_l, atI_0, atI_1, atI_2, atI_3, bin_add, bin_sub, bin_mul, bin_div, bin_mod, bin_pow, bin_shl, bin_shr, bin_and, bin_addL, bin_addT, aug_add, aug_sub, aug_mul, cmp_lt, cmp_le, cmp_gt, cmp_ge, cmp_is, cmp_isnt, cmp_eq, cmp_ne, tst_e, wipe_nil, wipe_cons, asg_one, asg_many, asgs_nil, asgs_cons, seqV_t, seqV_s, seqV_l, chkV_t, chkV_l, chkV_s, chkV_a, callG_fn, isCal_fn, isCal_cls, isCalk_fn, callK_fn, frz_nil, puSp_run, bf_len, bf_abs, bf_int, bf_intb, bf_tupT, bf_tupL, bf_listL, bf_listT, bf_min2, bf_max2, bf_isi, slc_l, slc_t, slc_s, fld_i, setB, tabA_hit, isi_tt, isi_ti, isi_ii, isi_it, isi_ib, isi_bi, isi_bb, isi_ss, Cxt.nox, natI_0, natI_1, natI_2, natI_3, natI_4, natI_5, natI_6, natI_7, Bool.not_true, Bool.not_false, decide_true, decide_false, Bool.false_eq_true, if_true, if_false, celQ_set, idxV_set, Sto.set_set, ixN_30, ixN_31, ixN_32, enumV_n, enumV_c, zipV_n, zipV_c, objQ_set, isNon_n, isNon_t, isNon_i, setC_l, dropC_n, dropC_s, dropC_a, cellOf_0, cellOf_s, cellOf_n, frz_cons, frz1_s, frz1_n, sbst_t, sbst_l, sbst_i, sbst_b, sbst_non, sbst_str, sbst_a, sbsts_n, sbsts_c, bin_addLA_set, lenV_set, seqV_set, bf_tupA_set, bmP_app, bmV_app, bf_sum_set, bf_sum_l, asInts_n, asInts_c, Option.map_some, sz_0, sz_1, sz_2, sz_3, sz_4, sz_5, sz_6, sz_7, List.map_cons, List.map_nil, List.length_cons, List.length_nil, List.cons_append, List.nil_append, List.append_nil, List.drop_nil, List.set_cons_zero, List.set_cons_succ, List.replicate_succ, List.replicate_zero, Nat.reduceSub, Nat.reduceAdd, decide_eq_true_eq, true_and, and_true])
theorem call_is_shade {C : Addr} {t : T3} {S : Sto} {Q : VQ} {er : EQ} (hQ : Q (.bl true) S) : (sp_is_shade C).run [shV C t] S Q er := ⟨t, rfl, trivial, hQ⟩
def sp_check_lights (C : Addr) : ISp := puSp (fun ls : List T3 => [.tup (ls.map (shV C))]) (fun ls => 1 ≤ ls.length ∧ ls.length ≤ 5) fun _ => .non
theorem hsp_check_lights {C : Addr} {D : Nat → Li.G} {A : Addr → Str → Prop} (h104 : D 104 = .fn (sp_is_shade C) 1 []) (h105 : D 105 = .val (.int 5)) (vs : List Val) (S : Sto) (Q : VQ) (R : EQ) (hl : vs.length = 1) (h : (sp_check_lights C).run vs S Q R) : evD { D := D, A := A, er := R } Pt.b_check_lights 3 [] vs S Q := by
  obtain ⟨ls, rfl, ⟨h1, h5⟩, hQ⟩ := h
  unfold Pt.b_check_lights
  walk_at "li"
  rw [h104, h105]
  walk_at "li"
  rw [List.length_map, if_pos (by omega)]
  have e : decide ((ls.length : Int) ≤ 5) = true := decide_eq_true (by omega)
  rw [e]
  walk_at "li"
  refine forL_inv (fun r σ S' => S' = S ∧ ∃ (i : Nat) (ys : List T3) (o1 o2 : Option Val), r = enumV i (ys.map (shV C)) ∧ σ = [some (.tup (ls.map (shV C))), o1, o2]) (fun _ _ _ _ => trivial) (fun v r σ S' nx h hn => ?_) (fun σ S' h => ?_) ⟨rfl, 0, ls, none, none, rfl, rfl⟩
  · obtain ⟨rfl, i, ys, o1, o2, hr, rfl⟩ := h
    cases ys with
    | nil => cases hr
    | cons y ys =>
      rw [List.map_cons, enumV_c] at hr
      injection hr with hv hr
      subst hv
      walk_at "li"
      refine call_is_shade ?_
      walk_at "li"
      exact hn _ _ ⟨rfl, i + 1, ys, _, _, hr, rfl⟩
  · obtain ⟨rfl, _⟩ := h
    exact hQ
def gap (a b : T3) : T3 := (a.1 - b.1, a.2.1 - b.2.1, a.2.2 - b.2.2)
def Pz3 (a b : T3) : Prop := Pz a.1 b.1 ∧ Pz a.2.1 b.2.1 ∧ Pz a.2.2 b.2.2
def sp_gaps : ISp := puSp (fun p : T3 × T3 => [trV p.1, trV p.2]) (fun p => Pz3 p.1 p.2) fun p => trV (gap p.1 p.2)
theorem hsp_gaps {D : Nat → Li.G} {A : Addr → Str → Prop} (h19 : D 19 = .fn sp_less 2 []) (vs : List Val) (S : Sto) (Q : VQ) (R : EQ) (hl : vs.length = 2) (h : sp_gaps.run vs S Q R) : evD { D := D, A := A, er := R } Pt.b_gaps 4 [] vs S Q := by
  obtain ⟨⟨a, b⟩, rfl, ⟨p1, p2, p3⟩, hQ⟩ := h
  unfold Pt.b_gaps trV
  walk_at "li"
  rw [h19]
  walk_at "li"
  simp only [compL_cons, compL_nil]
  walk_at "li"
  exact call_less p1 ⟨by decide, call_less p2 ⟨by decide, call_less p3 ⟨by decide, hQ⟩⟩⟩
/-! ### what parts make -/
/-- the k-th share -/
def comp3 (k : Nat) (t : T3) : Rat := match k with
  | 0 => t.1
  | 1 => t.2.1
  | _ => t.2.2
def madeK (rows : List T3) (parts : List Rat) (k : Nat) : Rat := rsum ((rows.zip parts).map fun p => p.2 * comp3 k p.1)
def madeF (rows : List T3) (parts : List Rat) : T3 := (madeK rows parts 0, madeK rows parts 1, madeK rows parts 2)
structure MadeOk (rows : List T3) (parts : List Rat) : Prop where
  l : rows.length = parts.length
  n : rows.length ≤ 100
  ex : ∃ D E M N, B2 (E * D * (E * D)) 9000 ∧ B2 M 900 ∧ B2 N 900 ∧ (∀ l ∈ rows, Fz3 D M l) ∧ ∀ p ∈ parts, Fz E N p
theorem Fz3.k {D M : Nat} {t : T3} (h : Fz3 D M t) (k : Nat) : Fz D M (comp3 k t) := by
  obtain ⟨h1, h2, h3⟩ := h
  unfold comp3
  split
  · exact h1
  · exact h2
  · exact h3
theorem MadeOk.pz {rows : List T3} {parts : List Rat} (h : MadeOk rows parts) (k : Nat) : (∀ p ∈ rows.zip parts, Pz p.2 (comp3 k p.1)) ∧ PzS 0 ((rows.zip parts).map fun p => p.2 * comp3 k p.1) := by
  obtain ⟨hl, hn, D, E, M, N, bd, bm, bn, hr, hp⟩ := h
  have z : ∀ p ∈ rows.zip parts, Fz E N p.2 ∧ Fz D M (comp3 k p.1) := fun p hp' => ⟨hp _ (List.of_mem_zip hp').2, (hr _ (List.of_mem_zip hp').1).k k⟩
  cases rows with
  | nil => exact ⟨fun p hp => by simp at hp, trivial⟩
  | cons r0 rows =>
  cases parts with
  | nil => cases hl
  | cons p0 parts =>
  have hE : 0 < E := (hp p0 List.mem_cons_self).1
  have hD : 0 < D := ((hr r0 List.mem_cons_self).k 0).1
  have b1 : B2 (E * D) 9000 := bd.le (Nat.le_mul_of_pos_right _ (Nat.mul_pos hE hD))
  have bE : B2 E 9000 := b1.le (Nat.le_mul_of_pos_right _ hD)
  have bD : B2 D 9000 := b1.le (Nat.le_mul_of_pos_left _ hE)
  refine ⟨fun p hp => (z p hp).1.pz (z p hp).2 b1 ((bn.mul bE).mono (by decide)) ((bm.mul bD).mono (by decide)), ?_⟩
  refine pzS_of (D := E * D) (M := N * M) (N := 0) bd (Fz.zero (Nat.mul_pos hE hD)) (fun x hx => ?_) ?_
  · obtain ⟨p, hp, rfl⟩ := List.mem_map.mp hx
    exact (z p hp).1.mul (z p hp).2
  · rw [List.length_map, List.length_zip, ← hl, Nat.min_self, Nat.zero_add]
    have h1 : B2 (((r0 :: rows).length) * (N * M) * (E * D)) (7 + (900 + 900) + 9000) := B2.mul (B2.mul (B2.le (n := 100) (by unfold B2; decide) hn) (bn.mul bm)) b1
    exact h1.mono (by decide)
theorem zip_maps {α β : Type} {f : α → Val} {g : β → Val} : ∀ {as : List α} {bs : List β}, zipV (as.map f) (bs.map g) = (as.zip bs).map fun p => .tup [f p.1, g p.2]
  | [], _ => rfl
  | a :: as, [] => rfl
  | a :: as, b :: bs => by
    rw [List.map_cons, List.map_cons, zipV_c, List.zip_cons_cons, List.map_cons, zip_maps]
theorem trV_k {t : T3} : L2.atI [frV t.1, frV t.2.1, frV t.2.2] 0 = some (frV (comp3 0 t)) ∧ L2.atI [frV t.1, frV t.2.1, frV t.2.2] 1 = some (frV (comp3 1 t)) ∧ L2.atI [frV t.1, frV t.2.1, frV t.2.2] 2 = some (frV (comp3 2 t)) := ⟨rfl, rfl, rfl⟩
def sp_made_by : ISp where
  run := fun vs S Q _ => ∃ (rows : List T3) (parts : List Rat) (v : Val), vs = [v, .tup (parts.map frV)] ∧ (v = .lst (rows.map trV) ∨ v = .tup (rows.map trV)) ∧ MadeOk rows parts ∧ Q (trV (madeF rows parts)) S
  mono := fun hQ _ ⟨rows, parts, v, h1, h2, h3, h4⟩ => ⟨rows, parts, v, h1, h2, h3, hQ _ _ h4⟩
theorem made_turn {step : Val → Sto → (Option Val → Sto → Prop) → Prop} {chk : Sto → Prop} {S : Sto} {rows : List T3} {parts : List Rat} (ok : MadeOk rows parts) (k : Nat) {R : List Val → Sto → Prop} (hc : chk S)
    (hs : ∀ (l : T3) (p : Rat) (kk : Option Val → Sto → Prop), Pz p (comp3 k l) → kk (some (frV (p * comp3 k l))) S → step (.tup [trV l, frV p]) S kk) (hR : R (((rows.zip parts).map fun p => p.2 * comp3 k p.1).map frV) S) : compL step chk (zipV (rows.map trV) (parts.map frV)) [] S R := by
  rw [zip_maps]
  refine compL_mapA (f := fun p : T3 × Rat => frV (p.2 * comp3 k p.1)) hc ?_ (fun p hp kk hk => hs p.1 p.2 kk ((ok.pz k).1 p hp) hk) ?_
  · have := ok.n
    rw [List.length_zip, List.length_nil]
    exact szn (by omega)
  · rw [List.nil_append]
    rw [List.map_map] at hR
    exact hR
theorem hsp_made_by {D : Nat → Li.G} {A : Addr → Str → Prop} (h20 : D 20 = .fn sp_mul 2 []) (h22 : D 22 = .fn sp_total 1 []) (vs : List Val) (S : Sto) (Q : VQ) (R : EQ) (hl : vs.length = 2) (h : sp_made_by.run vs S Q R) : evD { D := D, A := A, er := R } Pt.b_made_by 5 [] vs S Q := by
  obtain ⟨rows, parts, v, rfl, hv, ok, hQ⟩ := h
  have hlen : (rows.map trV).length = (parts.map frV).length := by
    rw [List.length_map, List.length_map, ok.l]
  have hq : seqV S v = some (rows.map trV) := by
    rcases hv with rfl | rfl <;> rfl
  have hk : ∀ S', chkV S v S' := by
    rcases hv with rfl | rfl <;> exact fun _ => trivial
  unfold Pt.b_made_by
  walk_at "li"
  rw [rng3]
  simp only [compL_cons, compL_nil]
  walk_at "li"
  rw [h20, h22]
  walk_at "li"
  rw [hq]
  walk_at "li"
  refine ⟨by decide, hlen, made_turn ok 0 (hk _) (fun l p kk hp hk => ?_) ?_⟩
  · unfold trV
    walk_at "li"
    exact call_mul hp hk
  refine call_totalL (ok.pz 0).2 ⟨by decide, ?_⟩
  rw [hq]
  walk_at "li"
  refine ⟨hlen, made_turn ok 1 (hk _) (fun l p kk hp hk => ?_) ?_⟩
  · unfold trV
    walk_at "li"
    exact call_mul hp hk
  refine call_totalL (ok.pz 1).2 ⟨by decide, ?_⟩
  rw [hq]
  walk_at "li"
  refine ⟨hlen, made_turn ok 2 (hk _) (fun l p kk hp hk => ?_) ?_⟩
  · unfold trV
    walk_at "li"
    exact call_mul hp hk
  exact call_totalL (ok.pz 2).2 ⟨by decide, hQ⟩
end Li
set_option Elab.async false
set_option linter.all false
set_option maxRecDepth 100000
/-! Lg2: the common bottom, products, spans, feet. -/
namespace Li
open PySem
local macro_rules | `(tactic| walk_at "li") => `(tactic| simp only [evD, evSs, evS, evE, evEs, evI, evO, evIt, slotQ_0, slotQ_s, cloQ_0, cloQ_s, capQ_nil, capQ_cons, intQ_i, adrQ_a, lstQ_l, tupQ_t, dctQ_d, optQ_s, gvalQ_v, brV_s, asL_l, truV_b, truV_n, truV_i, lenV_t, lenV_s, lenV_l, idxV_t, idxV_s, idxV_l, atI_0, atI_1, atI_2, atI_3, bin_add, bin_sub, bin_mul, bin_div, bin_mod, bin_pow, bin_shl, bin_shr, bin_and, bin_addL, bin_addT, aug_add, aug_sub, aug_mul, cmp_lt, cmp_le, cmp_gt, cmp_ge, cmp_is, cmp_isnt, cmp_eq, cmp_ne, tst_e, wipe_nil, wipe_cons, asg_one, asg_many, asgs_nil, asgs_cons, seqV_t, seqV_s, seqV_l, chkV_t, chkV_l, chkV_s, chkV_a, callG_fn, isCal_fn, isCal_cls, isCalk_fn, callK_fn, frz_nil, puSp_run, bf_len, bf_abs, bf_int, bf_intb, bf_tupT, bf_tupL, bf_listL, bf_listT, bf_min2, bf_max2, bf_isi, slc_l, slc_t, slc_s, fld_i, setB, tabA_hit, isi_tt, isi_ti, isi_ii, isi_it, isi_ib, isi_bi, isi_bb, isi_ss, Cxt.nox, natI_0, natI_1, natI_2, natI_3, natI_4, natI_5, natI_6, natI_7, Bool.not_true, Bool.not_false, decide_true, decide_false, Bool.false_eq_true, if_true, if_false, celQ_set, idxV_set, Sto.set_set, ixN_30, ixN_31, ixN_32, enumV_n, enumV_c, zipV_n, zipV_c, objQ_set, isNon_n, isNon_t, isNon_i, setC_l, dropC_n, dropC_s, dropC_a, cellOf_0, cellOf_s, cellOf_n, frz_cons, frz1_s, frz1_n, sbst_t, sbst_l, sbst_i, sbst_b, sbst_non, sbst_str, sbst_a, sbsts_n, sbsts_c, bin_addLA_set, lenV_set, seqV_set, bf_tupA_set, bmP_app, bmV_app, bf_sum_set, bf_sum_l, asInts_n, asInts_c, Option.map_some, sz_0, sz_1, sz_2, sz_3, sz_4, sz_5, sz_6, sz_7, List.map_cons, List.map_nil, List.length_cons, List.length_nil, List.cons_append, List.nil_append, List.append_nil, List.drop_nil, List.set_cons_zero, List.set_cons_succ, List.replicate_succ, List.replicate_zero, Nat.reduceSub, Nat.reduceAdd, decide_eq_true_eq, true_and, and_true])
/-! ### the common bottom -/
def sp_common_bottom : ISp where
  run := fun vs S Q _ => ∃ (rows : List T3) (D : Nat), vs = [.lst (rows.map trV)] ∧ 0 < D ∧ B2 D 4000 ∧ (∀ t ∈ rows, ∀ k, (comp3 k t).den ∣ D) ∧ ∀ B : Nat, 0 < B → B ∣ D → (∀ t ∈ rows, ∀ k, (comp3 k t).den ∣ B) → Q (.int B) S
  mono := fun hQ _ ⟨rows, D, h1, h2, h3, h4, h5⟩ => ⟨rows, D, h1, h2, h3, h4, fun B q1 q2 q3 => hQ _ _ (h5 B q1 q2 q3)⟩
/-- one share more -/
theorem bottom_step {f d D : Nat} (hf : 0 < f) (hd : 0 < d) (h1 : f ∣ D) (h2 : d ∣ D) : 0 < f * (d / Nat.gcd f d) ∧ f * (d / Nat.gcd f d) ∣ D ∧ f ∣ f * (d / Nat.gcd f d) ∧ d ∣ f * (d / Nat.gcd f d) := by
  have hg : Nat.gcd f d ∣ d := Nat.gcd_dvd_right _ _
  have e : f * (d / Nat.gcd f d) = Nat.lcm f d := by
    unfold Nat.lcm
    rw [Nat.mul_div_assoc _ hg]
  rw [e]
  exact ⟨Nat.lcm_pos hf hd, Nat.lcm_dvd h1 h2, Nat.dvd_lcm_left _ _, Nat.dvd_lcm_right _ _⟩
theorem b2_dvd {a b n : Nat} (h : B2 b n) (h0 : 0 < b) (d : a ∣ b) : B2 a n := h.le (Nat.le_of_dvd h0 d)
theorem mulB {a b m n : Nat} (ha : B2 a m) (hb : B2 b n) (h : m + n ≤ 134217728) : L2.CMulX (a : Int) (b : Int) := L2.mulx_ok (by rw [Int.natAbs_natCast]; exact ha) (by rw [Int.natAbs_natCast]; exact hb) h
theorem divB {a : Int} {b n : Nat} (h0 : 0 < b) (hb : B2 b n) (h : n ≤ 9000) : L2.CDivW a (b : Int) := divW h0 (hb.mono h)
theorem hsp_common_bottom {D : Nat → Li.G} {A : Addr → Str → Prop} (h13 : D 13 = .fn sp_share_of 2 []) (vs : List Val) (S : Sto) (Q : VQ) (R : EQ) (hl : vs.length = 1) (h : sp_common_bottom.run vs S Q R) : evD { D := D, A := A, er := R } Pt.b_common_bottom 4 [] vs S Q := by
  obtain ⟨rows, E, rfl, hE, bE, hden, hQ⟩ := h
  unfold Pt.b_common_bottom
  walk_at "li"
  refine forL_inv (fun r σ S' => S' = S ∧ ∃ (ys : List T3) (f : Nat) (o2 o3 : Option Val), r = ys.map trV ∧ (∀ t ∈ ys, t ∈ rows) ∧ (∀ t ∈ rows, t ∈ ys ∨ ∀ k, (comp3 k t).den ∣ f) ∧ 0 < f ∧ f ∣ E ∧ σ = [some (.lst (rows.map trV)), some (.int f), o2, o3]) (fun _ _ _ _ => trivial) (fun v r σ S' nx h hn => ?_) (fun σ S' h => ?_) ⟨rfl, rows, 1, none, none, rfl, fun _ h => h, fun _ h => .inl h, by decide, Nat.one_dvd _, rfl⟩
  · obtain ⟨rfl, ys, f, o2, o3, hr, hsub, hall, hf, hfE, rfl⟩ := h
    cases ys with
    | nil => cases hr
    | cons y ys =>
      rw [List.map_cons] at hr
      injection hr with hv hr
      subst hv
      have hy := hsub y List.mem_cons_self
      have d1 := hden y hy 0
      have d2 := hden y hy 1
      have d3 := hden y hy 2
      obtain ⟨f1, g1, p1, q1⟩ := bottom_step hf (Rat.den_pos _) hfE d1
      obtain ⟨f2, g2, p2, q2⟩ := bottom_step f1 (Rat.den_pos _) g1 d2
      obtain ⟨f3, g3, p3, q3⟩ := bottom_step f2 (Rat.den_pos _) g2 d3
      unfold trV frV
      walk_at "li"
      rw [h13]
      simp only [forL_cons, forL_nil]
      walk_at "li"
      have mk : ∀ (a d : Nat), 0 < a → 0 < d → a ∣ E → d ∣ E → L2.CDivW (d : Int) (Nat.gcd a d : Nat) ∧ L2.CMulX (a : Int) ((d : Int) / (Nat.gcd a d : Nat)) := fun a d ha hd h1 h2 => by
        have hg := Nat.gcd_pos_of_pos_left d ha
        refine ⟨divB hg (b2_dvd bE hE (Nat.dvd_trans (Nat.gcd_dvd_left _ _) h1)) (by decide), ?_⟩
        have e : ((d : Int) / (Nat.gcd a d : Nat)) = ((d / Nat.gcd a d : Nat) : Int) := by simp
        rw [e]
        exact mulB (b2_dvd bE hE h1) ((b2_dvd bE hE h2).le (Nat.div_le_self _ _)) (by decide)
      have cast : ∀ (a d : Nat), (a : Int) * ((d : Int) / (Nat.gcd a d : Nat)) = ((a * (d / Nat.gcd a d) : Nat) : Int) := fun a d => by simp
      obtain ⟨m1, n1⟩ := mk f y.1.den hf (Rat.den_pos _) hfE d1
      refine ⟨⟨f, y.1.den⟩, rfl, trivial, ?_⟩
      walk_at "li"
      refine ⟨m1, n1, ?_⟩
      rw [cast]
      obtain ⟨m2, n2⟩ := mk _ y.2.1.den f1 (Rat.den_pos _) g1 d2
      refine ⟨⟨_, y.2.1.den⟩, rfl, trivial, ?_⟩
      walk_at "li"
      refine ⟨m2, n2, ?_⟩
      rw [cast]
      obtain ⟨m3, n3⟩ := mk _ y.2.2.den f2 (Rat.den_pos _) g2 d3
      refine ⟨⟨_, y.2.2.den⟩, rfl, trivial, ?_⟩
      walk_at "li"
      refine ⟨m3, n3, ?_⟩
      rw [cast]
      refine hn _ _ ⟨rfl, ys, _, _, _, hr, fun t ht => hsub t (List.mem_cons_of_mem _ ht), fun t ht => ?_, f3, g3, rfl⟩
      rcases hall t ht with h | h
      · rcases List.mem_cons.mp h with rfl | h
        · refine .inr fun k => ?_
          have c1 := Nat.dvd_trans q1 (Nat.dvd_trans p2 p3)
          have c2 := Nat.dvd_trans q2 p3
          unfold comp3
          split
          · exact c1
          · exact c2
          · exact q3
        · exact .inl h
      · exact .inr fun k => Nat.dvd_trans (h k) (Nat.dvd_trans p1 (Nat.dvd_trans p2 p3))
  · obtain ⟨rfl, ys, f, o2, o3, hr, hsub, hall, hf, hfE, rfl⟩ := h
    have : ys = [] := by
      cases ys with
      | nil => rfl
      | cons _ _ => cases hr
    subst this
    walk_at "li"
    exact hQ f hf hfE fun t ht => (hall t ht).resolve_left (by simp)
/-! ### products -/
abbrev Z3 : Type := Int × Int × Int
def ip (e : E3) (a b : Z3) : Int := [e.1 * a.1 * b.1, e.2.1 * a.2.1 * b.2.1, e.2.2 * a.2.2 * b.2.2].sum
def gramV (e : E3) (vs : List Z3) : Val := .lst (vs.map fun a => .lst (vs.map fun b => .int (ip e a b)))
/-- the whole numbers of what a light has more than a shade -/
def wholeOf (B : Nat) (x : Rat) : Int := x.num * ((B : Int) / (x.den : Int))
def diffOf (B : Nat) (q l : T3) : Z3 := (wholeOf B l.1 - wholeOf B q.1, wholeOf B l.2.1 - wholeOf B q.2.1, wholeOf B l.2.2 - wholeOf B q.2.2)
def z3V (z : Z3) : Val := .lst [.int z.1, .int z.2.1, .int z.2.2]
def sp_products_of_whole : ISp := puSp (fun p : Rat × Nat => [frV p.1, .int p.2]) (fun p => In1 p.1 ∧ 0 < p.2 ∧ p.1.den ∣ p.2 ∧ B2 p.2 4000) fun p => .int (wholeOf p.2 p.1)
theorem in1_num {x : Rat} (h : In1 x) : 0 ≤ x.num ∧ x.num ≤ x.den := by
  have := in1_b.mp h
  rw [Bool.and_eq_true, decide_eq_true_eq, decide_eq_true_eq] at this
  exact this
theorem hsp_products_of_whole {D : Nat → Li.G} {A : Addr → Str → Prop} (h110 : D 110 = .fn sp_common_bottom 1 []) (vs : List Val) (S : Sto) (Q : VQ) (R : EQ) (hl : vs.length = 2) (h : sp_products_of_whole.run vs S Q R) : evD { D := D, A := A, er := R } Pt.nb_products_of_whole 2 [] vs S Q := by
  obtain ⟨⟨x, B⟩, rfl, ⟨hx, hB, hd, b4⟩, hQ⟩ := h
  unfold Pt.nb_products_of_whole frV
  walk_at "li"
  obtain ⟨n1, n2⟩ := in1_num (x := x) hx
  have bd : B2 x.den 4000 := b2_dvd b4 hB hd
  refine ⟨divB (Rat.den_pos _) bd (by decide), ?_, hQ⟩
  have e : ((B : Int) / (x.den : Int)) = ((B / x.den : Nat) : Int) := by simp
  rw [e]
  refine L2.mulx_ok (a := 4000) (b := 4000) ?_ (by rw [Int.natAbs_natCast]; exact b4.le (Nat.div_le_self _ _)) (by decide)
  exact bd.le (show x.num.natAbs ≤ x.den by omega)

def sp_products_of : ISp where
  run := fun vs S Q _ => ∃ (rows : List T3) (q : T3) (e : E3) (D : Nat), vs = [.lst (rows.map trV), trV q, eyV e] ∧ rows.length ≤ 50 ∧ Eye3 e ∧ 0 < D ∧ B2 D 4000 ∧ (∀ t ∈ q :: rows, In3 t ∧ ∀ k, (comp3 k t).den ∣ D) ∧
    ∀ B : Nat, 0 < B → B ∣ D → (∀ t ∈ q :: rows, ∀ k, (comp3 k t).den ∣ B) → Q (gramV e (rows.map (diffOf B q))) S
  mono := fun hQ _ ⟨rows, q, e, D, h1, h2, h3, h4, h5, h6, h7⟩ => ⟨rows, q, e, D, h1, h2, h3, h4, h5, h6, fun B q1 q2 q3 => hQ _ _ (h7 B q1 q2 q3)⟩
theorem In3.k {t : T3} (h : In3 t) (k : Nat) : In1 (comp3 k t) := by
  obtain ⟨h1, h2, h3⟩ := h
  unfold comp3
  split
  · exact h1
  · exact h2
  · exact h3
/-- what whole stands for -/
theorem whole_val {B : Nat} {x : Rat} (hd : x.den ∣ B) : (wholeOf B x : Rat) = (B : Rat) * x := by
  obtain ⟨c, rfl⟩ := hd
  have hx := x.den_pos
  unfold wholeOf
  rw [show (((x.den * c : Nat) : Int) / (x.den : Int)) = (c : Int) by
    rw [Int.natCast_mul]
    exact Int.mul_ediv_cancel_left _ (by omega), Rat.intCast_mul, Rat.natCast_mul, Rat.intCast_natCast]
  have e : x * (x.den : Rat) = (x.num : Rat) := by
    have := Rat.num_divInt_den x
    rw [Rat.divInt_eq_div, Rat.intCast_natCast] at this
    have hz : (x.den : Rat) ≠ 0 := fun z => by
      have := Rat.natCast_eq_zero_iff.mp z
      omega
    calc x * (x.den : Rat) = ((x.num : Rat) / (x.den : Rat)) * (x.den : Rat) := by rw [this]
      _ = _ := Rat.div_mul_cancel hz
  rw [← e]
  grind
theorem whole_le {B : Nat} {x : Rat} (h : In1 x) (hd : x.den ∣ B) : 0 ≤ wholeOf B x ∧ wholeOf B x ≤ B := by
  obtain ⟨c, rfl⟩ := hd
  have hx := x.den_pos
  obtain ⟨n1, n2⟩ := in1_num h
  unfold wholeOf
  rw [show (((x.den * c : Nat) : Int) / (x.den : Int)) = (c : Int) by
    rw [Int.natCast_mul]
    exact Int.mul_ediv_cancel_left _ (by omega), Int.natCast_mul]
  exact ⟨Int.mul_nonneg n1 (by omega), Int.mul_le_mul_of_nonneg_right n2 (by omega)⟩
theorem call_whole_of {x : Rat} {B : Nat} {S : Sto} {Q : VQ} {er : EQ} (h : In1 x) (h0 : 0 < B) (hd : x.den ∣ B) (b4 : B2 B 4000) (hQ : Q (.int (wholeOf B x)) S) : sp_products_of_whole.run [frV x, .int B] S Q er := ⟨⟨x, B⟩, rfl, ⟨h, h0, hd, b4⟩, hQ⟩
theorem diff_b2 {B : Nat} {x y : Rat} (b4 : B2 B 4000) (hx : In1 x) (hy : In1 y) (dx : x.den ∣ B) (dy : y.den ∣ B) : B2 (wholeOf B x - wholeOf B y).natAbs 4000 := by
  obtain ⟨a1, a2⟩ := whole_le hx dx
  obtain ⟨c1, c2⟩ := whole_le hy dy
  exact b4.le (by omega)
theorem map2_l {α : Type} {f : α → Val} {xs : List α} : ([] : List Val) ++ xs.map f = xs.map f := List.nil_append _
theorem hsp_products_of {D : Nat → Li.G} {A : Addr → Str → Prop} {L : Nat → LF} {ok : NdefX.NF → Prop} (h110 : D 110 = .fn sp_common_bottom 1 []) (hL : L 0 = ⟨ok, 1, [5], sp_products_of_whole⟩) (vs : List Val) (S : Sto) (Q : VQ) (R : EQ) (hl : vs.length = 3) (h : sp_products_of.run vs S Q R) : evD { D := D, A := A, er := R, L := L } Pt.b_products_of 10 [] vs S Q := by
  obtain ⟨rows, q, e, E, rfl, hn, he, hE, bE, hok, hQ⟩ := h
  unfold Pt.b_products_of
  walk_at "li"
  rw [h110, hL]
  walk_at "li"
  refine ⟨by rw [List.length_map]; exact szn (by omega), rows ++ [q], E, by rw [List.map_append]; rfl, hE, bE, fun t ht k => (hok t (by simp at ht ⊢; exact ht.symm)).2 k, fun B hB hBE hBd f F hF hf => ?_⟩
  have hBd' : ∀ t ∈ q :: rows, ∀ k, (comp3 k t).den ∣ B := fun t ht k => hBd t (by simp at ht ⊢; exact ht.symm) k
  have b4 : B2 B 4000 := b2_dvd bE hE hBE
  have hq := hok q List.mem_cons_self
  refine compL_mapA (f := fun l => z3V (diffOf B q l)) trivial (by rw [List.length_nil]; exact szn (by omega)) (fun l hl' k hk => ?_) ?_
  · have hl2 := hok l (List.mem_cons_of_mem _ hl')
    have dl := hBd' l (List.mem_cons_of_mem _ hl')
    have dq := hBd' q List.mem_cons_self
    rw [rng3]
    simp only [compL_cons, compL_nil]
    unfold trV
    walk_at "li"
    refine ⟨by decide, hF, call_whole_of hl2.1.1 hB (dl 0) b4 ⟨hF, call_whole_of hq.1.1 hB (dq 0) b4 ?_⟩⟩
    walk_at "li"
    refine ⟨by decide, hF, call_whole_of hl2.1.2.1 hB (dl 1) b4 ⟨hF, call_whole_of hq.1.2.1 hB (dq 1) b4 ?_⟩⟩
    walk_at "li"
    refine ⟨by decide, hF, call_whole_of hl2.1.2.2 hB (dl 2) b4 ⟨hF, call_whole_of hq.1.2.2 hB (dq 2) b4 ?_⟩⟩
    walk_at "li"
    exact ⟨by decide, hk⟩
  · have hQ' := hQ B hB hBE hBd'
    have hsz : ∀ l ∈ rows, B2 (diffOf B q l).1.natAbs 4000 ∧ B2 (diffOf B q l).2.1.natAbs 4000 ∧ B2 (diffOf B q l).2.2.natAbs 4000 := fun l hl' => by
      have hl2 := hok l (List.mem_cons_of_mem _ hl')
      have dl := hBd' l (List.mem_cons_of_mem _ hl')
      have dq := hBd' q List.mem_cons_self
      exact ⟨diff_b2 b4 hl2.1.1 hq.1.1 (dl 0) (dq 0), diff_b2 b4 hl2.1.2.1 hq.1.2.1 (dl 1) (dq 1), diff_b2 b4 hl2.1.2.2 hq.1.2.2 (dl 2) (dq 2)⟩
    have eyeB : ∀ i, Eye1 i → B2 i.natAbs 7 := fun i hi => by
      obtain ⟨h1, h2⟩ := hi
      unfold B2
      omega
    have mm : ∀ i x y : Int, Eye1 i → B2 x.natAbs 4000 → B2 y.natAbs 4000 → L2.CMulX i x ∧ L2.CMulX (i * x) y := fun i x y hi hx hy => ⟨L2.mulx_ok (eyeB i hi) hx (by decide), L2.mulx_ok (a := 4007) (by rw [Int.natAbs_mul]; exact (eyeB i hi).mul hx) hy (by decide)⟩
    refine compL_mapA (f := fun a => .lst (rows.map fun b => .int (ip e (diffOf B q a) (diffOf B q b)))) trivial (by rw [List.length_nil]; exact szn (by omega)) (fun a ha k hk => ?_) ?_
    · rw [List.nil_append]
      refine compL_mapA (f := fun b => .int (ip e (diffOf B q a) (diffOf B q b))) trivial (by rw [List.length_nil]; exact szn (by omega)) (fun b hb k hk => ?_) ?_
      · rw [rng3]
        simp only [compL_cons, compL_nil]
        unfold eyV z3V
        walk_at "li"
        obtain ⟨a1, a2, a3⟩ := hsz a ha
        obtain ⟨b1, b2, b3⟩ := hsz b hb
        obtain ⟨m1, m2⟩ := mm _ _ _ he.1 a1 b1
        obtain ⟨m3, m4⟩ := mm _ _ _ he.2.1 a2 b2
        obtain ⟨m5, m6⟩ := mm _ _ _ he.2.2 a3 b3
        refine ⟨by decide, m1, m2, by decide, m3, m4, by decide, m5, m6, by decide, ?_⟩
        exact hk
      · exact hk
    · rw [List.nil_append]
      unfold gramV at hQ'
      rw [List.map_map] at hQ'
      have e2 : rows.map ((fun a => Val.lst ((rows.map (diffOf B q)).map fun b => .int (ip e a b))) ∘ diffOf B q) = rows.map fun a => Val.lst (rows.map fun b => .int (ip e (diffOf B q a) (diffOf B q b))) := by
        congr 1
        funext a
        show Val.lst ((rows.map (diffOf B q)).map _) = _
        rw [List.map_map]
        rfl
      rw [e2] at hQ'
      exact hQ'
end Li
set_option Elab.async false
set_option linter.all false
set_option maxRecDepth 100000
set_option maxHeartbeats 1000000
/-! Lg3: what rows span; feet. -/
namespace Li
open PySem
local macro_rules | `(tactic| walk_at "li") => `(tactic| simp only [evD, evSs, evS, evE, evEs, evI, evO, evIt, slotQ_0, slotQ_s, cloQ_0, cloQ_s, capQ_nil, capQ_cons, intQ_i, adrQ_a, lstQ_l, tupQ_t, dctQ_d, optQ_s, gvalQ_v, brV_s, asL_l, truV_b, truV_n, truV_i, lenV_t, lenV_s, lenV_l, idxV_t, idxV_s, idxV_l, atI_0, atI_1, atI_2, atI_3, bin_add, bin_sub, bin_mul, bin_div, bin_mod, bin_pow, bin_shl, bin_shr, bin_and, bin_addL, bin_addT, aug_add, aug_sub, aug_mul, cmp_lt, cmp_le, cmp_gt, cmp_ge, cmp_is, cmp_isnt, cmp_eq, cmp_ne, tst_e, wipe_nil, wipe_cons, asg_one, asg_many, asgs_nil, asgs_cons, seqV_t, seqV_s, seqV_l, chkV_t, chkV_l, chkV_s, chkV_a, callG_fn, isCal_fn, isCal_cls, isCalk_fn, callK_fn, frz_nil, puSp_run, bf_len, bf_abs, bf_int, bf_intb, bf_tupT, bf_tupL, bf_listL, bf_listT, bf_min2, bf_max2, bf_isi, slc_l, slc_t, slc_s, fld_i, setB, tabA_hit, isi_tt, isi_ti, isi_ii, isi_it, isi_ib, isi_bi, isi_bb, isi_ss, Cxt.nox, natI_0, natI_1, natI_2, natI_3, natI_4, natI_5, natI_6, natI_7, Bool.not_true, Bool.not_false, decide_true, decide_false, Bool.false_eq_true, if_true, if_false, celQ_set, idxV_set, Sto.set_set, ixN_30, ixN_31, ixN_32, enumV_n, enumV_c, zipV_n, zipV_c, objQ_set, isNon_n, isNon_t, isNon_i, setC_l, dropC_n, dropC_s, dropC_a, cellOf_0, cellOf_s, cellOf_n, frz_cons, frz1_s, frz1_n, sbst_t, sbst_l, sbst_i, sbst_b, sbst_non, sbst_str, sbst_a, sbsts_n, sbsts_c, bin_addLA_set, lenV_set, seqV_set, bf_tupA_set, bmP_app, bmV_app, bf_sum_set, bf_sum_l, asInts_n, asInts_c, Option.map_some, sz_0, sz_1, sz_2, sz_3, sz_4, sz_5, sz_6, sz_7, List.map_cons, List.map_nil, List.length_cons, List.length_nil, List.cons_append, List.nil_append, List.append_nil, List.drop_nil, List.set_cons_zero, List.set_cons_succ, List.replicate_succ, List.replicate_zero, Nat.reduceSub, Nat.reduceAdd, decide_eq_true_eq, true_and, and_true])
section
variable {a b c d : Val}
theorem cut1_h0 : cut [a] none (some 0) = [] := rfl
theorem cut1_l1 : cut [a] (some 1) none = [] := rfl
theorem cut2_h0 : cut [a, b] none (some 0) = [] := rfl
theorem cut2_h1 : cut [a, b] none (some 1) = [a] := rfl
theorem cut2_l1 : cut [a, b] (some 1) none = [b] := rfl
theorem cut2_l2 : cut [a, b] (some 2) none = [] := rfl
theorem cut3_h0 : cut [a, b, c] none (some 0) = [] := rfl
theorem cut3_h1 : cut [a, b, c] none (some 1) = [a] := rfl
theorem cut3_h2 : cut [a, b, c] none (some 2) = [a, b] := rfl
theorem cut3_l1 : cut [a, b, c] (some 1) none = [b, c] := rfl
theorem cut3_l2 : cut [a, b, c] (some 2) none = [c] := rfl
theorem cut3_l3 : cut [a, b, c] (some 3) none = [] := rfl
theorem cut4_l1 : cut [a, b, c, d] (some 1) none = [b, c, d] := rfl
end
local macro_rules | `(tactic| walk_at "lc") => `(tactic| simp only [evD, evSs, evS, evE, evEs, evI, evO, evIt, slotQ_0, slotQ_s, cloQ_0, cloQ_s, capQ_nil, capQ_cons, intQ_i, adrQ_a, lstQ_l, tupQ_t, dctQ_d, optQ_s, gvalQ_v, brV_s, asL_l, truV_b, truV_n, truV_i, lenV_t, lenV_s, lenV_l, idxV_t, idxV_s, idxV_l, atI_0, atI_1, atI_2, atI_3, bin_add, bin_sub, bin_mul, bin_div, bin_mod, bin_pow, bin_shl, bin_shr, bin_and, bin_addL, bin_addT, aug_add, aug_sub, aug_mul, cmp_lt, cmp_le, cmp_gt, cmp_ge, cmp_is, cmp_isnt, cmp_eq, cmp_ne, tst_e, wipe_nil, wipe_cons, asg_one, asg_many, asgs_nil, asgs_cons, seqV_t, seqV_s, seqV_l, chkV_t, chkV_l, chkV_s, chkV_a, callG_fn, isCal_fn, isCal_cls, isCalk_fn, callK_fn, frz_nil, puSp_run, bf_len, bf_abs, bf_int, bf_intb, bf_tupT, bf_tupL, bf_listL, bf_listT, bf_min2, bf_max2, bf_isi, slc_l, slc_t, slc_s, fld_i, setB, tabA_hit, isi_tt, isi_ti, isi_ii, isi_it, isi_ib, isi_bi, isi_bb, isi_ss, Cxt.nox, natI_0, natI_1, natI_2, natI_3, natI_4, natI_5, natI_6, natI_7, Bool.not_true, Bool.not_false, decide_true, decide_false, Bool.false_eq_true, if_true, if_false, celQ_set, idxV_set, Sto.set_set, ixN_30, ixN_31, ixN_32, enumV_n, enumV_c, zipV_n, zipV_c, objQ_set, isNon_n, isNon_t, isNon_i, setC_l, dropC_n, dropC_s, dropC_a, cellOf_0, cellOf_s, cellOf_n, frz_cons, frz1_s, frz1_n, sbst_t, sbst_l, sbst_i, sbst_b, sbst_non, sbst_str, sbst_a, sbsts_n, sbsts_c, bin_addLA_set, lenV_set, seqV_set, bf_tupA_set, bmP_app, bmV_app, bf_sum_set, bf_sum_l, asInts_n, asInts_c, Option.map_some, sz_0, sz_1, sz_2, sz_3, sz_4, sz_5, sz_6, sz_7, List.map_cons, List.map_nil, List.length_cons, List.length_nil, List.cons_append, List.nil_append, List.append_nil, List.drop_nil, List.set_cons_zero, List.set_cons_succ, List.replicate_succ, List.replicate_zero, Nat.reduceSub, Nat.reduceAdd, decide_eq_true_eq, true_and, and_true, cut1_h0, cut1_l1, cut2_h0, cut2_h1, cut2_l1, cut2_l2, cut3_h0, cut3_h1, cut3_h2, cut3_l1, cut3_l2, cut3_l3, cut4_l1, Int.reduceAdd, Int.reduceSub, Int.reduceMod, Int.reduceNeg, compL_cons, compL_nil, forL_cons, forL_nil, rng0, rng1n, rng2, rng3, r62_0, r62_1, r62_2, r62_3, szl_0, szl_1, szl_2, szl_3, szl_4, szl_5, szl_6, szl_7])
def m1 (a : Int) : Val := .lst [.lst [.int a]]
def m2 (a b c d : Int) : Val := .lst [.lst [.int a, .int b], .lst [.int c, .int d]]
def m3 (a b c d e f g h i : Int) : Val := .lst [.lst [.int a, .int b, .int c], .lst [.int d, .int e, .int f], .lst [.int g, .int h, .int i]]
def det2 (a b c d : Int) : Int := a * d - b * c
def det3 (a b c d e f g h i : Int) : Int := a * (e * i - f * h) - b * (d * i - f * g) + c * (d * h - e * g)
/-- numbers that a span may be reckoned of -/
def Sz (x : Int) : Prop := B2 x.natAbs 100000
def sp_size_of (j : Nat) : ISp where
  run := fun vs S Q _ => (vs = [.lst []] ∧ Q (.int 1) S) ∨ (1 ≤ j ∧ ∃ a, vs = [m1 a] ∧ Sz a ∧ Q (.int a) S) ∨ (2 ≤ j ∧ ∃ a b c d, vs = [m2 a b c d] ∧ Sz a ∧ Sz b ∧ Sz c ∧ Sz d ∧ Q (.int (det2 a b c d)) S)
    ∨ (3 ≤ j ∧ ∃ a b c d e f g h i, vs = [m3 a b c d e f g h i] ∧ (Sz a ∧ Sz b ∧ Sz c) ∧ (Sz d ∧ Sz e ∧ Sz f) ∧ (Sz g ∧ Sz h ∧ Sz i) ∧ Q (.int (det3 a b c d e f g h i)) S)
  mono := fun hQ _ h => by
    rcases h with ⟨h1, h2⟩ | ⟨h1, a, h2, h3, h4⟩ | ⟨h1, a, b, c, d, h2, h3, h4, h5, h6, h7⟩ | ⟨h1, a, b, c, d, e, f, g, h, i, h2, h3, h4, h5, h6⟩
    · exact .inl ⟨h1, hQ _ _ h2⟩
    · exact .inr (.inl ⟨h1, a, h2, h3, hQ _ _ h4⟩)
    · exact .inr (.inr (.inl ⟨h1, a, b, c, d, h2, h3, h4, h5, h6, hQ _ _ h7⟩))
    · exact .inr (.inr (.inr ⟨h1, a, b, c, d, e, f, g, h, i, h2, h3, h4, h5, hQ _ _ h6⟩))
theorem eqm0 {S : Sto} {P : Bool → Prop} : cmpV S .Eq (.lst []) (.lst []) P = P true := by
  show (SeqAt.shaped _ = true ∧ SeqAt.shaped _ = true ∧ P (id (PyData.eqv (.list []) (.list [])))) = _
  simp [SeqAt.shaped, PyData.canLay0, PyData.canLayAll0, PyData.depth, PyData.depthAll, PyData.eqv, PyData.eqvAll]
theorem eqm1 {S : Sto} {P : Bool → Prop} {a : Int} : cmpV S .Eq (m1 a) (.lst []) P = P false := by
  show (SeqAt.shaped _ = true ∧ SeqAt.shaped _ = true ∧ P (id (PyData.eqv (.list [.list [.int a]]) (.list [])))) = _
  simp [SeqAt.shaped, PyData.canLay0, PyData.canLayAll0, PyData.depth, PyData.depthAll, PyData.eqv, PyData.eqvAll]
theorem eqm2 {S : Sto} {P : Bool → Prop} {a b c d : Int} : cmpV S .Eq (m2 a b c d) (.lst []) P = P false := by
  show (SeqAt.shaped _ = true ∧ SeqAt.shaped _ = true ∧ P (id (PyData.eqv (.list [.list [.int a, .int b], .list [.int c, .int d]]) (.list [])))) = _
  simp [SeqAt.shaped, PyData.canLay0, PyData.canLayAll0, PyData.depth, PyData.depthAll, PyData.eqv, PyData.eqvAll]
theorem eqm3 {S : Sto} {P : Bool → Prop} {a b c d e f g h i : Int} : cmpV S .Eq (m3 a b c d e f g h i) (.lst []) P = P false := by
  show (SeqAt.shaped _ = true ∧ SeqAt.shaped _ = true ∧ P (id (PyData.eqv (.list [.list [.int a, .int b, .int c], .list [.int d, .int e, .int f], .list [.int g, .int h, .int i]]) (.list [])))) = _
  simp [SeqAt.shaped, PyData.canLay0, PyData.canLayAll0, PyData.depth, PyData.depthAll, PyData.eqv, PyData.eqvAll]
theorem hsp_size_of0 {D : Nat → Li.G} {A : Addr → Str → Prop} (vs : List Val) (S : Sto) (Q : VQ) (R : EQ) (hl : vs.length = 1) (h : (sp_size_of 0).run vs S Q R) : evD { D := D, A := A, er := R } Pt.b_size_of 6 [] vs S Q := by
  rcases h with ⟨rfl, hQ⟩ | ⟨h1, _⟩ | ⟨h1, _⟩ | ⟨h1, _⟩
  · unfold Pt.b_size_of
    walk_at "li"
    rw [eqm0]
    exact hQ
  · omega
  · omega
  · omega
theorem Sz.m1 {x : Int} {s : Int} (h : Sz x) (hs : s = 1 ∨ s = -1) : L2.CMulX s x := by
  rcases hs with rfl | rfl
  · exact L2.mulx_ok (a := 1) (by decide) h (by decide)
  · exact L2.mulx_ok (a := 1) (by decide) h (by decide)
theorem Sz.m2 {x y s : Int} {n : Nat} (h : Sz x) (hs : s = 1 ∨ s = -1) (hy : B2 y.natAbs n) (hn : n ≤ 300000) : L2.CMulX (s * x) y := by
  refine L2.mulx_ok (a := 100000) ?_ hy (by omega)
  have e : (s * x).natAbs = x.natAbs := by
    rcases hs with rfl | rfl
    · rw [Int.one_mul]
    · rw [Int.neg_mul, Int.one_mul, Int.natAbs_neg]
  rw [e]
  exact h
theorem call_size0 {j : Nat} {S : Sto} {Q : VQ} {er : EQ} (hQ : Q (.int 1) S) : (sp_size_of j).run [.lst []] S Q er := .inl ⟨rfl, hQ⟩
theorem call_size1 {j : Nat} {a : Int} {S : Sto} {Q : VQ} {er : EQ} (hj : 1 ≤ j) (ha : Sz a) (hQ : Q (.int a) S) : (sp_size_of j).run [.lst [.lst [.int a]]] S Q er := .inr (.inl ⟨hj, a, rfl, ha, hQ⟩)
theorem call_size2 {j : Nat} {a b c d : Int} {S : Sto} {Q : VQ} {er : EQ} (hj : 2 ≤ j) (ha : Sz a) (hb : Sz b) (hc : Sz c) (hd : Sz d) (hQ : Q (.int (det2 a b c d)) S) : (sp_size_of j).run [.lst [.lst [.int a, .int b], .lst [.int c, .int d]]] S Q er := .inr (.inr (.inl ⟨hj, a, b, c, d, rfl, ha, hb, hc, hd, hQ⟩))
theorem call_size3 {j : Nat} {a b c d e f g h i : Int} {S : Sto} {Q : VQ} {er : EQ} (hj : 3 ≤ j) (h1 : Sz a ∧ Sz b ∧ Sz c) (h2 : Sz d ∧ Sz e ∧ Sz f) (h3 : Sz g ∧ Sz h ∧ Sz i) (hQ : Q (.int (det3 a b c d e f g h i)) S) : (sp_size_of j).run [.lst [.lst [.int a, .int b, .int c], .lst [.int d, .int e, .int f], .lst [.int g, .int h, .int i]]] S Q er := .inr (.inr (.inr ⟨hj, a, b, c, d, e, f, g, h, i, rfl, h1, h2, h3, hQ⟩))
theorem det2_b {a b c d : Int} (ha : Sz a) (hb : Sz b) (hc : Sz c) (hd : Sz d) : B2 (det2 a b c d).natAbs 200001 := by
  unfold det2
  have h1 := ha.mul hd
  have h2 := hb.mul hc
  rw [← Int.natAbs_mul] at h1 h2
  have h3 := h1.add h2
  exact h3.le (by omega)
theorem det1_e (a : Int) : 0 + 1 * a * 1 = a := by omega
theorem det2_e (a b c d : Int) : 0 + 1 * a * d + -1 * b * c = det2 a b c d := by
  unfold det2
  grind
theorem det3_e (a b c d e f g h i : Int) : 0 + 1 * a * det2 e f h i + -1 * b * det2 d f g i + 1 * c * det2 d e g h = det3 a b c d e f g h i := by
  unfold det2 det3
  grind
theorem hsp_size_ofs {j : Nat} {D : Nat → Li.G} {A : Addr → Str → Prop} (h112 : D 112 = .fn (sp_size_of j) 1 []) (vs : List Val) (S : Sto) (Q : VQ) (R : EQ) (hl : vs.length = 1) (h : (sp_size_of (j + 1)).run vs S Q R) : evD { D := D, A := A, er := R } Pt.b_size_of 6 [] vs S Q := by
  unfold Pt.b_size_of
  rcases h with ⟨rfl, hQ⟩ | ⟨h1, a, rfl, ha, hQ⟩ | ⟨h1, a, b, c, d, rfl, ha, hb, hc, hd, hQ⟩ | ⟨h1, a, b, c, d, e, f, g, h, i, rfl, ⟨ha, hb, hc⟩, ⟨hd, he, hf⟩, ⟨hg, hh, hi⟩, hQ⟩
  · walk_at "li"
    rw [eqm0]
    exact hQ
  · walk_at "li"
    rw [eqm1, h112]
    unfold m1
    walk_at "lc"
    refine call_size0 ?_
    walk_at "lc"
    refine ⟨by decide, ha.m1 (.inl rfl), ha.m2 (n := 1) (.inl rfl) (by unfold B2; decide) (by decide), ?_⟩
    rw [det1_e]
    exact hQ
  · walk_at "li"
    rw [eqm2, h112]
    unfold m2
    walk_at "lc"
    refine call_size1 (by omega) hd ⟨by decide, ha.m1 (.inl rfl), ?_⟩
    walk_at "lc"
    refine ⟨ha.m2 (.inl rfl) hd (by decide), call_size1 (by omega) hc ⟨by decide, hb.m1 (.inr rfl), ?_⟩⟩
    walk_at "lc"
    refine ⟨hb.m2 (.inr rfl) hc (by decide), ?_⟩
    rw [det2_e]
    exact hQ
  · walk_at "li"
    rw [eqm3, h112]
    unfold m3
    walk_at "lc"
    refine call_size2 (by omega) he hf hh hi ⟨by decide, ha.m1 (.inl rfl), ?_⟩
    walk_at "lc"
    refine ⟨ha.m2 (.inl rfl) (det2_b he hf hh hi) (by decide), call_size2 (by omega) hd hf hg hi ⟨by decide, hb.m1 (.inr rfl), ?_⟩⟩
    walk_at "lc"
    refine ⟨hb.m2 (.inr rfl) (det2_b hd hf hg hi) (by decide), call_size2 (by omega) hd he hg hh ⟨by decide, hc.m1 (.inl rfl), ?_⟩⟩
    walk_at "lc"
    refine ⟨hc.m2 (.inl rfl) (det2_b hd he hg hh) (by decide), ?_⟩
    rw [det3_e]
    exact hQ
end Li
set_option Elab.async false
set_option linter.all false
set_option maxRecDepth 100000
set_option maxHeartbeats 2000000
/-! Lg4: feet. -/
namespace Li
open PySem
local macro_rules | `(tactic| walk_at "li") => `(tactic| simp only [evD, evSs, evS, evE, evEs, evI, evO, evIt, slotQ_0, slotQ_s, cloQ_0, cloQ_s, capQ_nil, capQ_cons, intQ_i, adrQ_a, lstQ_l, tupQ_t, dctQ_d, optQ_s, gvalQ_v, brV_s, asL_l, truV_b, truV_n, truV_i, lenV_t, lenV_s, lenV_l, idxV_t, idxV_s, idxV_l, atI_0, atI_1, atI_2, atI_3, bin_add, bin_sub, bin_mul, bin_div, bin_mod, bin_pow, bin_shl, bin_shr, bin_and, bin_addL, bin_addT, aug_add, aug_sub, aug_mul, cmp_lt, cmp_le, cmp_gt, cmp_ge, cmp_is, cmp_isnt, cmp_eq, cmp_ne, tst_e, wipe_nil, wipe_cons, asg_one, asg_many, asgs_nil, asgs_cons, seqV_t, seqV_s, seqV_l, chkV_t, chkV_l, chkV_s, chkV_a, callG_fn, isCal_fn, isCal_cls, isCalk_fn, callK_fn, frz_nil, puSp_run, bf_len, bf_abs, bf_int, bf_intb, bf_tupT, bf_tupL, bf_listL, bf_listT, bf_min2, bf_max2, bf_isi, slc_l, slc_t, slc_s, fld_i, setB, tabA_hit, isi_tt, isi_ti, isi_ii, isi_it, isi_ib, isi_bi, isi_bb, isi_ss, Cxt.nox, natI_0, natI_1, natI_2, natI_3, natI_4, natI_5, natI_6, natI_7, Bool.not_true, Bool.not_false, decide_true, decide_false, Bool.false_eq_true, if_true, if_false, celQ_set, idxV_set, Sto.set_set, ixN_30, ixN_31, ixN_32, enumV_n, enumV_c, zipV_n, zipV_c, objQ_set, isNon_n, isNon_t, isNon_i, setC_l, dropC_n, dropC_s, dropC_a, cellOf_0, cellOf_s, cellOf_n, frz_cons, frz1_s, frz1_n, sbst_t, sbst_l, sbst_i, sbst_b, sbst_non, sbst_str, sbst_a, sbsts_n, sbsts_c, bin_addLA_set, lenV_set, seqV_set, bf_tupA_set, bmP_app, bmV_app, bf_sum_set, bf_sum_l, asInts_n, asInts_c, Option.map_some, sz_0, sz_1, sz_2, sz_3, sz_4, sz_5, sz_6, sz_7, List.map_cons, List.map_nil, List.length_cons, List.length_nil, List.cons_append, List.nil_append, List.append_nil, List.drop_nil, List.set_cons_zero, List.set_cons_succ, List.replicate_succ, List.replicate_zero, Nat.reduceSub, Nat.reduceAdd, decide_eq_true_eq, true_and, and_true])
local macro_rules | `(tactic| walk_at "lc") => `(tactic| simp only [evD, evSs, evS, evE, evEs, evI, evO, evIt, slotQ_0, slotQ_s, cloQ_0, cloQ_s, capQ_nil, capQ_cons, intQ_i, adrQ_a, lstQ_l, tupQ_t, dctQ_d, optQ_s, gvalQ_v, brV_s, asL_l, truV_b, truV_n, truV_i, lenV_t, lenV_s, lenV_l, idxV_t, idxV_s, idxV_l, atI_0, atI_1, atI_2, atI_3, bin_add, bin_sub, bin_mul, bin_div, bin_mod, bin_pow, bin_shl, bin_shr, bin_and, bin_addL, bin_addT, aug_add, aug_sub, aug_mul, cmp_lt, cmp_le, cmp_gt, cmp_ge, cmp_is, cmp_isnt, cmp_eq, cmp_ne, tst_e, wipe_nil, wipe_cons, asg_one, asg_many, asgs_nil, asgs_cons, seqV_t, seqV_s, seqV_l, chkV_t, chkV_l, chkV_s, chkV_a, callG_fn, isCal_fn, isCal_cls, isCalk_fn, callK_fn, frz_nil, puSp_run, bf_len, bf_abs, bf_int, bf_intb, bf_tupT, bf_tupL, bf_listL, bf_listT, bf_min2, bf_max2, bf_isi, slc_l, slc_t, slc_s, fld_i, setB, tabA_hit, isi_tt, isi_ti, isi_ii, isi_it, isi_ib, isi_bi, isi_bb, isi_ss, Cxt.nox, natI_0, natI_1, natI_2, natI_3, natI_4, natI_5, natI_6, natI_7, Bool.not_true, Bool.not_false, decide_true, decide_false, Bool.false_eq_true, if_true, if_false, celQ_set, idxV_set, Sto.set_set, ixN_30, ixN_31, ixN_32, enumV_n, enumV_c, zipV_n, zipV_c, objQ_set, isNon_n, isNon_t, isNon_i, setC_l, dropC_n, dropC_s, dropC_a, cellOf_0, cellOf_s, cellOf_n, frz_cons, frz1_s, frz1_n, sbst_t, sbst_l, sbst_i, sbst_b, sbst_non, sbst_str, sbst_a, sbsts_n, sbsts_c, bin_addLA_set, lenV_set, seqV_set, bf_tupA_set, bmP_app, bmV_app, bf_sum_set, bf_sum_l, asInts_n, asInts_c, Option.map_some, sz_0, sz_1, sz_2, sz_3, sz_4, sz_5, sz_6, sz_7, List.map_cons, List.map_nil, List.length_cons, List.length_nil, List.cons_append, List.nil_append, List.append_nil, List.drop_nil, List.set_cons_zero, List.set_cons_succ, List.replicate_succ, List.replicate_zero, Nat.reduceSub, Nat.reduceAdd, decide_eq_true_eq, true_and, and_true, cut1_h0, cut1_l1, cut2_h0, cut2_h1, cut2_l1, cut2_l2, cut3_h0, cut3_h1, cut3_h2, cut3_l1, cut3_l2, cut3_l3, cut4_l1, Int.reduceAdd, Int.reduceSub, Int.reduceMod, Int.reduceNeg, compL_cons, compL_nil, forL_cons, forL_nil, rng0, rng1n, rng2, rng3, r62_0, r62_1, r62_2, r62_3, szl_0, szl_1, szl_2, szl_3, szl_4, szl_5, szl_6, szl_7])
def prodV (n : Nat) (G : Nat → Nat → Int) : Val := .lst ((List.range n).map fun i => .lst ((List.range n).map fun j => .int (G i j)))
theorem atI_range {n i : Nat} {f : Nat → Val} (h : i < n) : L2.atI ((List.range n).map f) (i : Int) = some (f i) := by
  rw [atI_nat (by rw [List.length_map, List.length_range]; exact h), List.getElem?_map, List.getElem?_range h]
  rfl
theorem idx_range {n i : Nat} {f : Nat → Val} {S : Sto} {Q : Val → Prop} (h : i < n) : idxV S (.lst ((List.range n).map f)) (.int i) Q = Q (f i) := by
  rw [idxV_l, atI_range h, optQ_s]
section
variable (G : Nat → Nat → Int)
/-- differences, as the program reckons them -/
def gR (f a b : Nat) : Int := G a b - G f a - G f b + G f f
def gA (f a : Nat) : Int := G f f - G f a
/-- tops and bottom -/
def footF : List Nat → List Int × Int
  | [_] => ([1 - ([] : List Int).sum], 1)
  | [f, a] => ([gR G f a a - [gA G f a].sum, gA G f a], gR G f a a)
  | [f, a, b] =>
    let t1 := det2 (gA G f a) (gR G f a b) (gA G f b) (gR G f b b)
    let t2 := det2 (gR G f a a) (gA G f a) (gR G f b a) (gA G f b)
    let d := det2 (gR G f a a) (gR G f a b) (gR G f b a) (gR G f b b)
    ([d - [t1, t2].sum, t1, t2], d)
  | [f, a, b, c] =>
    let t1 := det3 (gA G f a) (gR G f a b) (gR G f a c) (gA G f b) (gR G f b b) (gR G f b c) (gA G f c) (gR G f c b) (gR G f c c)
    let t2 := det3 (gR G f a a) (gA G f a) (gR G f a c) (gR G f b a) (gA G f b) (gR G f b c) (gR G f c a) (gA G f c) (gR G f c c)
    let t3 := det3 (gR G f a a) (gR G f a b) (gA G f a) (gR G f b a) (gR G f b b) (gA G f b) (gR G f c a) (gR G f c b) (gA G f c)
    let d := det3 (gR G f a a) (gR G f a b) (gR G f a c) (gR G f b a) (gR G f b b) (gR G f b c) (gR G f c a) (gR G f c b) (gR G f c c)
    ([d - [t1, t2, t3].sum, t1, t2, t3], d)
  | _ => ([], 0)
end
def chV (ch : List Nat) : Val := .lst (ch.map fun k : Nat => Val.int (k : Int))
def intsV (ns : List Int) : Val := .lst (ns.map Val.int)
def sp_foot_of : ISp where
  run := fun vs S Q _ => ∃ (n : Nat) (G : Nat → Nat → Int) (ch : List Nat), vs = [prodV n G, chV ch] ∧ n ≤ 50 ∧ 1 ≤ ch.length ∧ ch.length ≤ 4 ∧ (∀ k ∈ ch, k < n) ∧ (∀ i j, i < n → j < n → B2 (G i j).natAbs 90000) ∧ Q (.tup [intsV (footF G ch).1, .int (footF G ch).2]) S
  mono := fun hQ _ ⟨n, G, ch, h1, h2, h3, h4, h5, h6, h7⟩ => ⟨n, G, ch, h1, h2, h3, h4, h5, h6, hQ _ _ h7⟩
theorem sz_gR {G : Nat → Nat → Int} {n f a b : Nat} (h : ∀ i j, i < n → j < n → B2 (G i j).natAbs 90000) (hf : f < n) (ha : a < n) (hb : b < n) : Sz (gR G f a b) := by
  have h1 := h a b ha hb
  have h2 := h f a hf ha
  have h3 := h f b hf hb
  have h4 := h f f hf hf
  unfold Sz gR
  exact (((h1.add h2).add (h3.add h4)).mono (b := 100000) (by decide)).le (by omega)
theorem sz_gA {G : Nat → Nat → Int} {n f a : Nat} (h : ∀ i j, i < n → j < n → B2 (G i j).natAbs 90000) (hf : f < n) (ha : a < n) : Sz (gA G f a) := by
  have h2 := h f a hf ha
  have h4 := h f f hf hf
  unfold Sz gA
  exact ((h4.add h2).mono (b := 100000) (by decide)).le (by omega)
theorem cutc_0 {a : Val} : cut [a] (some 1) none = [] := rfl
theorem hsp_foot_of {D : Nat → Li.G} {A : Addr → Str → Prop} (h112 : D 112 = .fn (sp_size_of 4) 1 []) (vs : List Val) (S : Sto) (Q : VQ) (R : EQ) (hl : vs.length = 2) (h : sp_foot_of.run vs S Q R) : evD { D := D, A := A, er := R } Pt.b_foot_of 14 [7] vs S Q := by
  obtain ⟨n, G, ch, rfl, hn, h1, h4, hch, hG, hQ⟩ := h
  unfold Pt.b_foot_of chV
  match ch, h1, h4 with
  | [f], _, _ =>
    have hf := hch f (by simp)
    unfold prodV
    walk_at "lc"
    rw [atI_range hf, h112]
    walk_at "lc"
    intro p hp
    refine call_size0 ?_
    walk_at "lc"
    rw [Sto.set_del hp]
    exact hQ
  | [f, a], _, _ =>
    have hf := hch f (by simp)
    have ha := hch a (by simp)
    have ra := sz_gR hG hf ha ha
    have aa := sz_gA hG hf ha
    unfold prodV
    walk_at "lc"
    rw [h112]
    simp only [atI_range hf, atI_range ha]
    walk_at "lc"
    simp only [atI_range hf, atI_range ha]
    walk_at "lc"
    intro p hp
    refine call_size1 (by decide) aa ?_
    walk_at "lc"
    refine call_size1 (by decide) ra ?_
    walk_at "lc"
    rw [Sto.set_del hp]
    exact hQ
  | [f, a, b], _, _ =>
    have hf := hch f (by simp)
    have ha := hch a (by simp)
    have hb := hch b (by simp)
    have r1 := sz_gR hG hf ha ha
    have r2 := sz_gR hG hf ha hb
    have r3 := sz_gR hG hf hb ha
    have r4 := sz_gR hG hf hb hb
    have a1 := sz_gA hG hf ha
    have a2 := sz_gA hG hf hb
    unfold prodV
    walk_at "lc"
    rw [h112]
    simp only [atI_range hf, atI_range ha, atI_range hb]
    walk_at "lc"
    simp only [atI_range hf, atI_range ha, atI_range hb]
    walk_at "lc"
    intro p hp
    refine call_size2 (by decide) a1 r2 a2 r4 ?_
    walk_at "lc"
    refine call_size2 (by decide) r1 a1 r3 a2 ?_
    walk_at "lc"
    refine call_size2 (by decide) r1 r2 r3 r4 ?_
    walk_at "lc"
    rw [Sto.set_del hp]
    exact hQ
  | [f, a, b, c], _, _ =>
    have hf := hch f (by simp)
    have ha := hch a (by simp)
    have hb := hch b (by simp)
    have hc := hch c (by simp)
    have r1 := sz_gR hG hf ha ha
    have r2 := sz_gR hG hf ha hb
    have r3 := sz_gR hG hf ha hc
    have r4 := sz_gR hG hf hb ha
    have r5 := sz_gR hG hf hb hb
    have r6 := sz_gR hG hf hb hc
    have r7 := sz_gR hG hf hc ha
    have r8 := sz_gR hG hf hc hb
    have r9 := sz_gR hG hf hc hc
    have a1 := sz_gA hG hf ha
    have a2 := sz_gA hG hf hb
    have a3 := sz_gA hG hf hc
    unfold prodV
    walk_at "lc"
    rw [h112]
    simp only [atI_range hf, atI_range ha, atI_range hb, atI_range hc]
    walk_at "lc"
    simp only [atI_range hf, atI_range ha, atI_range hb, atI_range hc]
    walk_at "lc"
    intro p hp
    refine call_size3 (by decide) ⟨a1, r2, r3⟩ ⟨a2, r5, r6⟩ ⟨a3, r8, r9⟩ ?_
    walk_at "lc"
    refine call_size3 (by decide) ⟨r1, a1, r3⟩ ⟨r4, a2, r6⟩ ⟨r7, a3, r9⟩ ?_
    walk_at "lc"
    refine call_size3 (by decide) ⟨r1, r2, a1⟩ ⟨r4, r5, a2⟩ ⟨r7, r8, a3⟩ ?_
    walk_at "lc"
    refine call_size3 (by decide) ⟨r1, r2, r3⟩ ⟨r4, r5, r6⟩ ⟨r7, r8, r9⟩ ?_
    walk_at "lc"
    rw [Sto.set_del hp]
    exact hQ
end Li
set_option Elab.async false
set_option linter.all false
set_option maxRecDepth 100000
set_option maxHeartbeats 2000000
/-! Lg5: is it a foot? which are chosen? -/
namespace Li
open PySem
local macro_rules | `(tactic| walk_at "li") => `(tactic| simp only [evD, evSs, evS, evE, evEs, evI, evO, evIt, slotQ_0, slotQ_s, cloQ_0, cloQ_s, capQ_nil, capQ_cons, intQ_i, adrQ_a, lstQ_l, tupQ_t, dctQ_d, optQ_s, gvalQ_v, brV_s, asL_l, truV_b, truV_n, truV_i, lenV_t, lenV_s, lenV_l, idxV_t, idxV_s, idxV_l, atI_0, atI_1, atI_2, atI_3, bin_add, bin_sub, bin_mul, bin_div, bin_mod, bin_pow, bin_shl, bin_shr, bin_and, bin_addL, bin_addT, aug_add, aug_sub, aug_mul, cmp_lt, cmp_le, cmp_gt, cmp_ge, cmp_is, cmp_isnt, cmp_eq, cmp_ne, tst_e, wipe_nil, wipe_cons, asg_one, asg_many, asgs_nil, asgs_cons, seqV_t, seqV_s, seqV_l, chkV_t, chkV_l, chkV_s, chkV_a, callG_fn, isCal_fn, isCal_cls, isCalk_fn, callK_fn, frz_nil, puSp_run, bf_len, bf_abs, bf_int, bf_intb, bf_tupT, bf_tupL, bf_listL, bf_listT, bf_min2, bf_max2, bf_isi, slc_l, slc_t, slc_s, fld_i, setB, tabA_hit, isi_tt, isi_ti, isi_ii, isi_it, isi_ib, isi_bi, isi_bb, isi_ss, Cxt.nox, natI_0, natI_1, natI_2, natI_3, natI_4, natI_5, natI_6, natI_7, Bool.not_true, Bool.not_false, decide_true, decide_false, Bool.false_eq_true, if_true, if_false, celQ_set, idxV_set, Sto.set_set, ixN_30, ixN_31, ixN_32, enumV_n, enumV_c, zipV_n, zipV_c, objQ_set, isNon_n, isNon_t, isNon_i, setC_l, dropC_n, dropC_s, dropC_a, cellOf_0, cellOf_s, cellOf_n, frz_cons, frz1_s, frz1_n, sbst_t, sbst_l, sbst_i, sbst_b, sbst_non, sbst_str, sbst_a, sbsts_n, sbsts_c, bin_addLA_set, lenV_set, seqV_set, bf_tupA_set, bmP_app, bmV_app, bf_sum_set, bf_sum_l, asInts_n, asInts_c, Option.map_some, sz_0, sz_1, sz_2, sz_3, sz_4, sz_5, sz_6, sz_7, List.map_cons, List.map_nil, List.length_cons, List.length_nil, List.cons_append, List.nil_append, List.append_nil, List.drop_nil, List.set_cons_zero, List.set_cons_succ, List.replicate_succ, List.replicate_zero, Nat.reduceSub, Nat.reduceAdd, decide_eq_true_eq, true_and, and_true])
local macro_rules | `(tactic| walk_at "lc") => `(tactic| simp only [evD, evSs, evS, evE, evEs, evI, evO, evIt, slotQ_0, slotQ_s, cloQ_0, cloQ_s, capQ_nil, capQ_cons, intQ_i, adrQ_a, lstQ_l, tupQ_t, dctQ_d, optQ_s, gvalQ_v, brV_s, asL_l, truV_b, truV_n, truV_i, lenV_t, lenV_s, lenV_l, idxV_t, idxV_s, idxV_l, atI_0, atI_1, atI_2, atI_3, bin_add, bin_sub, bin_mul, bin_div, bin_mod, bin_pow, bin_shl, bin_shr, bin_and, bin_addL, bin_addT, aug_add, aug_sub, aug_mul, cmp_lt, cmp_le, cmp_gt, cmp_ge, cmp_is, cmp_isnt, cmp_eq, cmp_ne, tst_e, wipe_nil, wipe_cons, asg_one, asg_many, asgs_nil, asgs_cons, seqV_t, seqV_s, seqV_l, chkV_t, chkV_l, chkV_s, chkV_a, callG_fn, isCal_fn, isCal_cls, isCalk_fn, callK_fn, frz_nil, puSp_run, bf_len, bf_abs, bf_int, bf_intb, bf_tupT, bf_tupL, bf_listL, bf_listT, bf_min2, bf_max2, bf_isi, slc_l, slc_t, slc_s, fld_i, setB, tabA_hit, isi_tt, isi_ti, isi_ii, isi_it, isi_ib, isi_bi, isi_bb, isi_ss, Cxt.nox, natI_0, natI_1, natI_2, natI_3, natI_4, natI_5, natI_6, natI_7, Bool.not_true, Bool.not_false, decide_true, decide_false, Bool.false_eq_true, if_true, if_false, celQ_set, idxV_set, Sto.set_set, ixN_30, ixN_31, ixN_32, enumV_n, enumV_c, zipV_n, zipV_c, objQ_set, isNon_n, isNon_t, isNon_i, setC_l, dropC_n, dropC_s, dropC_a, cellOf_0, cellOf_s, cellOf_n, frz_cons, frz1_s, frz1_n, sbst_t, sbst_l, sbst_i, sbst_b, sbst_non, sbst_str, sbst_a, sbsts_n, sbsts_c, bin_addLA_set, lenV_set, seqV_set, bf_tupA_set, bmP_app, bmV_app, bf_sum_set, bf_sum_l, asInts_n, asInts_c, Option.map_some, sz_0, sz_1, sz_2, sz_3, sz_4, sz_5, sz_6, sz_7, List.map_cons, List.map_nil, List.length_cons, List.length_nil, List.cons_append, List.nil_append, List.append_nil, List.drop_nil, List.set_cons_zero, List.set_cons_succ, List.replicate_succ, List.replicate_zero, Nat.reduceSub, Nat.reduceAdd, decide_eq_true_eq, true_and, and_true, cut1_h0, cut1_l1, cut2_h0, cut2_h1, cut2_l1, cut2_l2, cut3_h0, cut3_h1, cut3_h2, cut3_l1, cut3_l2, cut3_l3, cut4_l1, Int.reduceAdd, Int.reduceSub, Int.reduceMod, Int.reduceNeg, compL_cons, compL_nil, forL_cons, forL_nil, rng0, rng1n, rng2, rng3, r62_0, r62_1, r62_2, r62_3, szl_0, szl_1, szl_2, szl_3, szl_4, szl_5, szl_6, szl_7])
def pullF (G : Nat → Nat → Int) (ch : List Nat) (tops : List Int) (i : Nat) : Int := ((tops.zip ch).map fun p => p.1 * G i p.2).sum
def hereF (G : Nat → Nat → Int) (ch : List Nat) (tops : List Int) : Int := ((tops.zip ch).map fun p => p.1 * pullF G ch tops p.2).sum
def isFootB (n : Nat) (G : Nat → Nat → Int) (ch : List Nat) (tops : List Int) (b : Int) : Bool := !decide (b = 0) && tops.all (fun t => decide (0 ≤ t)) && (List.range n).all fun i => decide (hereF G ch tops ≤ b * pullF G ch tops i)
def sp_is_foot : ISp where
  run := fun vs S Q _ => ∃ (n : Nat) (G : Nat → Nat → Int) (ch : List Nat) (tops : List Int) (b : Int), vs = [prodV n G, chV ch, intsV tops, .int b] ∧ n ≤ 50 ∧ 1 ≤ ch.length ∧ ch.length ≤ 4 ∧ tops.length = ch.length ∧ (∀ k ∈ ch, k < n) ∧ (∀ i j, i < n → j < n → B2 (G i j).natAbs 90000) ∧ (∀ t ∈ tops, B2 t.natAbs 400000) ∧ B2 b.natAbs 400000 ∧ Q (.bl (isFootB n G ch tops b)) S
  mono := fun hQ _ ⟨n, G, ch, tops, b, h1, h2, h3, h4, h5, h6, h7, h8, h9, h10⟩ => ⟨n, G, ch, tops, b, h1, h2, h3, h4, h5, h6, h7, h8, h9, hQ _ _ h10⟩
theorem b2_sum {n : Nat} : ∀ {xs : List Int}, (∀ x ∈ xs, B2 x.natAbs n) → xs.length ≤ 4 → B2 xs.sum.natAbs (n + 2)
  | [], _, _ => by
    show 0 < 2 ^ _
    exact Nat.two_pow_pos _
  | [a], h, _ => by
    have h1 := h a (by simp)
    exact (h1.mono (by omega)).le (by simp)
  | [a, b], h, _ => by
    have h1 := h a (by simp)
    have h2 := h b (by simp)
    refine ((h1.add h2).mono (b := n + 2) (by omega)).le ?_
    simp only [List.sum_cons, List.sum_nil]
    omega
  | [a, b, c], h, _ => by
    have h1 := h a (by simp)
    have h2 := h b (by simp)
    have h3 := h c (by simp)
    refine ((h1.add h2).add (h3.mono (b := n + 1) (by omega))).le ?_
    simp only [List.sum_cons, List.sum_nil]
    omega
  | [a, b, c, d], h, _ => by
    have h1 := h a (by simp)
    have h2 := h b (by simp)
    have h3 := h c (by simp)
    have h4 := h d (by simp)
    refine ((h1.add h2).add (h3.add h4)).le ?_
    simp only [List.sum_cons, List.sum_nil]
    omega
  | _ :: _ :: _ :: _ :: _ :: _, _, h => by
    simp only [List.length_cons] at h
    omega
theorem pull_b {n : Nat} {G : Nat → Nat → Int} {ch : List Nat} {tops : List Int} (h4 : ch.length ≤ 4) (hk : ∀ k ∈ ch, k < n) (hG : ∀ i j, i < n → j < n → B2 (G i j).natAbs 90000) (ht : ∀ t ∈ tops, B2 t.natAbs 400000) {i : Nat} (hi : i < n) : B2 (pullF G ch tops i).natAbs 490002 := by
  refine b2_sum (n := 490000) (fun x hx => ?_) (by rw [List.length_map, List.length_zip]; omega)
  obtain ⟨p, hp, rfl⟩ := List.mem_map.mp hx
  rw [Int.natAbs_mul]
  exact ((ht _ (List.of_mem_zip hp).1).mul (hG _ _ hi (hk _ (List.of_mem_zip hp).2))).mono (by decide)
theorem here_b {n : Nat} {G : Nat → Nat → Int} {ch : List Nat} {tops : List Int} (h4 : ch.length ≤ 4) (hk : ∀ k ∈ ch, k < n) (hG : ∀ i j, i < n → j < n → B2 (G i j).natAbs 90000) (ht : ∀ t ∈ tops, B2 t.natAbs 400000) : True := trivial
theorem min_test {tops : List Int} {m : Int} (hm : m ∈ tops) (hl : ∀ y ∈ tops, m ≤ y) : decide (m < 0) = !tops.all (fun t => decide (0 ≤ t)) := by
  by_cases h : m < 0
  · rw [decide_eq_true h]
    cases e : tops.all (fun t => decide (0 ≤ t)) with
    | false => rfl
    | true =>
      have := of_decide_eq_true (List.all_eq_true.mp e m hm)
      omega
  · rw [decide_eq_false h]
    have e : tops.all (fun t => decide (0 ≤ t)) = true := List.all_eq_true.mpr fun y hy => decide_eq_true (by
      have := hl y hy
      omega)
    rw [e]
    rfl
/-- a statement, what stands behind it -/
theorem seq_step {c : Cxt} {s : Sm} {r : Ss} {D : DE} {σ : Env} {S : Sto} (P : Env → Sto → Prop) (g : evS c s { D with nx := P } σ S) (h : ∀ σ S, P σ S → evSs c r D σ S) : evSs c (.cons s r) D σ S := by
  rw [evSs]
  exact evS_mono s (D := { D with nx := P }) ⟨h, fun _ _ q => q, fun _ _ q => q, fun _ _ q => q⟩ g
theorem hsp_is_foot {D : Nat → Li.G} {A : Addr → Str → Prop} (vs : List Val) (S : Sto) (Q : VQ) (R : EQ) (hl : vs.length = 4) (h : sp_is_foot.run vs S Q R) : evD { D := D, A := A, er := R } Pt.b_is_foot 10 [] vs S Q := by
  obtain ⟨n, G, ch, tops, b, rfl, hn, h1, h4, hlen, hch, hG, ht, hb, hQ⟩ := h
  have key : b ≠ 0 → tops.all (fun t => decide (0 ≤ t)) = true → Q (.bl ((List.range n).all fun i => decide (hereF G ch tops ≤ b * pullF G ch tops i))) S → evD { D := D, A := A, er := R } (.cons (.set 4 (.comp (.bf .sum (.cons (.comp (.bin .Mult (.var 7) (.idx (.var 6) (.var 8))) (.many [7, 8]) (.zip (.var 2) (.var 1)) .no [7, 8]) .nil)) (.one 6) (.seq (.var 0)) .no [6]))
  (.cons (.set 5 (.bf .sum (.cons (.comp (.bin .Mult (.var 7) (.idx (.var 4) (.var 8))) (.many [7, 8]) (.zip (.var 2) (.var 1)) .no [7, 8]) .nil)))
  (.cons (.ret (.bf .all (.cons (.comp (.cmp .GtE (.bin .Mult (.var 3) (.var 9)) (.var 5)) (.one 9) (.seq (.var 4)) .no [9]) .nil)) [])
  .nil))) 10 [] [prodV n G, chV ch, intsV tops, .int b] S Q := fun hb0 hall hQ => by
    unfold prodV chV intsV
    walk_at "li"
    refine compL_mapA (f := fun i => .int (pullF G ch tops i)) trivial (by rw [List.length_range, List.length_nil]; exact szn (by omega)) (fun i hi k hk => ?_) ?_
    · have hi := List.mem_range.mp hi
      refine ⟨by rw [List.length_map, List.length_map, hlen], ?_⟩
      rw [zip_maps]
      refine compL_mapA (f := fun p : Int × Nat => .int (p.1 * G i p.2)) trivial (by rw [List.length_zip, List.length_nil]; exact szn (by omega)) (fun p hp k hk => ?_) ?_
      · have hp2 := hch _ (List.of_mem_zip hp).2
        walk_at "li"
        rw [atI_range hp2, optQ_s]
        walk_at "li"
        exact ⟨L2.mulx_ok (ht _ (List.of_mem_zip hp).1) (hG _ _ hi hp2) (by decide), hk⟩
      · rw [List.nil_append, show (tops.zip ch).map (fun p : Int × Nat => Val.int (p.1 * G i p.2)) = ((tops.zip ch).map fun p => p.1 * G i p.2).map Val.int by rw [List.map_map]; rfl, asInts_map]
        exact hk
    · rw [List.nil_append]
      refine ⟨by rw [List.length_map, List.length_map, hlen], ?_⟩
      rw [zip_maps]
      refine compL_mapA (f := fun p : Int × Nat => .int (p.1 * pullF G ch tops p.2)) trivial (by rw [List.length_zip, List.length_nil]; exact szn (by omega)) (fun p hp k hk => ?_) ?_
      · have hp2 := hch _ (List.of_mem_zip hp).2
        walk_at "li"
        rw [atI_range hp2, optQ_s]
        walk_at "li"
        exact ⟨L2.mulx_ok (ht _ (List.of_mem_zip hp).1) (pull_b h4 hch hG ht hp2) (by decide), hk⟩
      · rw [List.nil_append, show (tops.zip ch).map (fun p : Int × Nat => Val.int (p.1 * pullF G ch tops p.2)) = ((tops.zip ch).map fun p => p.1 * pullF G ch tops p.2).map Val.int by rw [List.map_map]; rfl, asInts_map]
        walk_at "li"
        refine compL_mapA (f := fun i => .bl (decide (hereF G ch tops ≤ b * pullF G ch tops i))) trivial (by rw [List.length_range, List.length_nil]; exact szn (by omega)) (fun i hi k hk => ?_) ?_
        · have hi := List.mem_range.mp hi
          walk_at "li"
          exact ⟨L2.mulx_ok hb (pull_b h4 hch hG ht hi) (by decide), hk⟩
        · rw [List.nil_append, show (List.range n).map (fun i => Val.bl (decide (hereF G ch tops ≤ b * pullF G ch tops i))) = ((List.range n).map fun i => decide (hereF G ch tops ≤ b * pullF G ch tops i)).map Val.bl by rw [List.map_map]; rfl, bf_allL, List.all_map]
          exact hQ
  unfold Pt.b_is_foot evD
  unfold evD at key
  refine seq_step (fun σ' S' => σ' = ([prodV n G, chV ch, intsV tops, .int b].map some ++ List.replicate (10 - 4) none) ∧ S' = S ∧ b ≠ 0 ∧ tops.all (fun t => decide (0 ≤ t)) = true) ?_ fun σ' S' hP => ?_
  · have e0 : isFootB n G ch tops b = (!decide (b = 0) && tops.all (fun t => decide (0 ≤ t)) && (List.range n).all fun i => decide (hereF G ch tops ≤ b * pullF G ch tops i)) := rfl
    walk_at "li"
    by_cases hb0 : b = 0
    · rw [if_pos hb0]
      rw [e0, decide_eq_true hb0] at hQ
      rw [if_pos hb0]
      exact hQ
    · rw [if_neg hb0]
      unfold intsV
      rw [bf_minL]
      refine ⟨by omega, fun m hm hl => ?_⟩
      have e1 := min_test hm hl
      walk_at "li"
      rw [e0, decide_eq_false hb0] at hQ
      cases e2 : tops.all (fun t => decide (0 ≤ t)) with
      | false =>
        rw [e2] at e1 hQ
        rw [if_pos (of_decide_eq_true e1)]
        exact hQ
      | true =>
        rw [e2] at e1 hQ
        rw [if_neg (of_decide_eq_false e1)]
        exact ⟨hb0, rfl⟩
  · obtain ⟨rfl, rfl, hb0, hall⟩ := hP
    refine key hb0 hall ?_
    have e0 : isFootB n G ch tops b = (!decide (b = 0) && tops.all (fun t => decide (0 ≤ t)) && (List.range n).all fun i => decide (hereF G ch tops ≤ b * pullF G ch tops i)) := rfl
    rw [e0, decide_eq_false hb0, hall] at hQ
    exact hQ
end Li
set_option Elab.async false
set_option linter.all false
set_option maxHeartbeats 2000000
/-! Mt3: feet, as the program reckons them. -/
namespace Li
namespace Mt
variable {e : V3} {n : Nat} {v : Nat → V3} {p : Nat → Bool} {G : Nat → Nat → Int}
theorem dot_sub (e a b c : V3) : dot e (sub a c) (sub b c) = dot e a b - dot e c a - dot e c b + dot e c c := by
  unfold dot sub
  grind
theorem mem_ch {ch : List Nat} (hch : (List.range n).filter p = ch) {k : Nat} : k ∈ ch ↔ k < n ∧ p k = true := by
  rw [← hch, List.mem_filter, List.mem_range]
theorem nodup_ch {ch : List Nat} (hch : (List.range n).filter p = ch) : ch.Nodup := by
  rw [← hch]
  exact List.Nodup.sublist List.filter_sublist List.nodup_range
theorem dot_pk {l : List (Nat × Rat)} (h : ∀ q ∈ l, q.1 < n) (u : V3) : dot e u (pt n v (pk l)) = ls l fun k => dot e u (v k) := by
  rw [dot_comm, dot_pt, sm_pk h]
  congr 1
  funext k
  exact dot_comm _ _ _
theorem foot_ex (pos : Pos e) (hG : ∀ i j, i < n → j < n → (G i j : Rat) = dot e (v i) (v j)) (ch : List Nat) (hch : (List.range n).filter p = ch) (h1 : 1 ≤ ch.length) (h4 : ch.length ≤ 4) (h : AffInd n v p) :
    ∃ x, Foot e n v p x ∧ 0 < (footF G ch).2 ∧ (footF G ch).1.length = ch.length ∧ ∀ q ∈ ch.zip (footF G ch).1, (q.2 : Rat) = ((footF G ch).2 : Rat) * x q.1 := by
  have nd := nodup_ch hch
  match ch, h1, h4 with
  | [f], _, _ =>
    obtain ⟨hf, pf⟩ := (mem_ch hch (k := f)).mp (by simp)
    have hl : ∀ q ∈ [(f, (1 : Rat))], q.1 < n := by simpa using hf
    refine ⟨pk [(f, 1)], Foot.mk' (c := dot e (v f) (v f)) (fun k hk hp => pk_out fun q hq => ?_) ?_ (fun k hk hp => ?_), (show (0 : Int) < 1 by decide), rfl, fun q hq => ?_⟩
    · rw [List.mem_singleton.mp hq]
      intro z
      subst z
      rw [pf] at hp
      cases hp
    · rw [sm_pk1 hl]
      simp only [ls]
      grind
    · have : k = f := by simpa using (mem_ch hch).mpr ⟨hk, hp⟩
      subst this
      rw [dot_pk hl]
      simp only [ls]
      grind
    · have : q = (f, 1 - ([] : List Int).sum) := by simpa [footF] using hq
      subst this
      simp [footF, pk]
      grind
  | [f, a], _, _ =>
    obtain ⟨hf, pf⟩ := (mem_ch hch (k := f)).mp (by simp)
    obtain ⟨ha, pa⟩ := (mem_ch hch (k := a)).mp (by simp)
    have n1 : a ≠ f := by
      intro z
      subst z
      simp at nd
    have gp := gram1 pos (ind1 h hf ha pf pa n1)
    rw [dot_sub] at gp
    have c1 : ((gR G f a a : Int) : Rat) = dot e (v a) (v a) - dot e (v f) (v a) - dot e (v f) (v a) + dot e (v f) (v f) := by
      unfold gR
      simp only [Rat.intCast_add, Rat.intCast_sub, hG _ _ hf hf, hG _ _ hf ha, hG _ _ ha ha]
    have c2 : ((gA G f a : Int) : Rat) = dot e (v f) (v f) - dot e (v f) (v a) := by
      unfold gA
      simp only [Rat.intCast_sub, hG _ _ hf hf, hG _ _ hf ha]
    rw [← c1] at gp
    have ne : ((gR G f a a : Int) : Rat) ≠ 0 := Rat.ne_of_gt gp
    obtain ⟨y, hy⟩ : ∃ y, ((gR G f a a : Int) : Rat) * y = ((gA G f a : Int) : Rat) := ⟨_, div_mul ne⟩
    have hl : ∀ q ∈ [(f, 1 - y), (a, y)], q.1 < n := by
      intro q hq
      simp only [List.mem_cons, List.not_mem_nil, or_false] at hq
      rcases hq with rfl | rfl <;> assumption
    refine ⟨pk [(f, 1 - y), (a, y)], Foot.mk' (c := (1 - y) * dot e (v f) (v f) + y * dot e (v f) (v a)) (fun k hk hp => pk_out fun q hq => ?_) ?_ (fun k hk hp => ?_), Rat.intCast_pos.mp gp, rfl, fun q hq => ?_⟩
    · simp only [List.mem_cons, List.not_mem_nil, or_false] at hq
      rcases hq with rfl | rfl <;> intro z <;> subst z <;> simp_all
    · rw [sm_pk1 hl]
      simp only [ls]
      grind
    · have : k = f ∨ k = a := by simpa using (mem_ch hch).mpr ⟨hk, hp⟩
      rw [dot_pk hl]
      simp only [ls]
      have := dot_comm e (v a) (v f)
      rcases ‹k = f ∨ k = a› with rfl | rfl
      · grind
      · rw [c1, c2] at hy
        grind
    · have : q = (f, gR G f a a - [gA G f a].sum) ∨ q = (a, gA G f a) := by simpa [footF] using hq
      rcases this with rfl | rfl
      · simp only [footF, pk, if_neg n1.symm, if_true, List.sum_cons, List.sum_nil, Rat.intCast_sub, Rat.intCast_add]
        grind
      · simp only [footF, pk, if_neg n1, if_true]
        grind
  | [f, a, b], _, _ =>
    obtain ⟨hf, pf⟩ := (mem_ch hch (k := f)).mp (by simp)
    obtain ⟨ha, pa⟩ := (mem_ch hch (k := a)).mp (by simp)
    obtain ⟨hb, pb⟩ := (mem_ch hch (k := b)).mp (by simp)
    have n0 : a ≠ f := by
      intro z
      subst z
      simp at nd
    have n1 : b ≠ f := by
      intro z
      subst z
      simp at nd
    have n2 : b ≠ a := by
      intro z
      subst z
      simp at nd
    have gp := gram2 pos (ind2 h hf ha hb pf pa pb n0 n1 n2)
    simp only [dot_sub] at gp
    have caa : ((gR G f a a : Int) : Rat) = dot e (v a) (v a) - dot e (v f) (v a) - dot e (v f) (v a) + dot e (v f) (v f) := by
      unfold gR
      simp only [Rat.intCast_add, Rat.intCast_sub, hG _ _ hf hf, hG _ _ hf ha, hG _ _ hf ha, hG _ _ ha ha]
    have cab : ((gR G f a b : Int) : Rat) = dot e (v a) (v b) - dot e (v f) (v a) - dot e (v f) (v b) + dot e (v f) (v f) := by
      unfold gR
      simp only [Rat.intCast_add, Rat.intCast_sub, hG _ _ hf hf, hG _ _ hf ha, hG _ _ hf hb, hG _ _ ha hb]
    have cba : ((gR G f b a : Int) : Rat) = dot e (v b) (v a) - dot e (v f) (v b) - dot e (v f) (v a) + dot e (v f) (v f) := by
      unfold gR
      simp only [Rat.intCast_add, Rat.intCast_sub, hG _ _ hf hf, hG _ _ hf hb, hG _ _ hf ha, hG _ _ hb ha]
    have cbb : ((gR G f b b : Int) : Rat) = dot e (v b) (v b) - dot e (v f) (v b) - dot e (v f) (v b) + dot e (v f) (v f) := by
      unfold gR
      simp only [Rat.intCast_add, Rat.intCast_sub, hG _ _ hf hf, hG _ _ hf hb, hG _ _ hf hb, hG _ _ hb hb]
    have ea : ((gA G f a : Int) : Rat) = dot e (v f) (v f) - dot e (v f) (v a) := by
      unfold gA
      simp only [Rat.intCast_sub, hG _ _ hf hf, hG _ _ hf ha]
    have eb : ((gA G f b : Int) : Rat) = dot e (v f) (v f) - dot e (v f) (v b) := by
      unfold gA
      simp only [Rat.intCast_sub, hG _ _ hf hf, hG _ _ hf hb]
    simp only [← caa, ← cab, ← cba, ← cbb] at gp
    have gp : (0 : Rat) < ((det2 (gR G f a a) (gR G f a b) (gR G f b a) (gR G f b b) : Int) : Rat) := by
      refine (Eq.mp (congrArg _ ?_) gp)
      unfold d2 det2
      simp only [Rat.intCast_sub, Rat.intCast_mul, Rat.intCast_add]
    have ne := Rat.ne_of_gt gp
    obtain ⟨ya, hya⟩ : ∃ y, ((det2 (gR G f a a) (gR G f a b) (gR G f b a) (gR G f b b) : Int) : Rat) * y = ((det2 (gA G f a) (gR G f a b) (gA G f b) (gR G f b b) : Int) : Rat) := ⟨_, div_mul ne⟩
    obtain ⟨yb, hyb⟩ : ∃ y, ((det2 (gR G f a a) (gR G f a b) (gR G f b a) (gR G f b b) : Int) : Rat) * y = ((det2 (gR G f a a) (gA G f a) (gR G f b a) (gA G f b) : Int) : Rat) := ⟨_, div_mul ne⟩
    have ka : ya * (((gR G f a a) : Int) : Rat) + yb * (((gR G f a b) : Int) : Rat) - ((gA G f a : Int) : Rat) = 0 := by
      refine (Rat.mul_eq_zero.mp (show ((det2 (gR G f a a) (gR G f a b) (gR G f b a) (gR G f b b) : Int) : Rat) * (ya * (((gR G f a a) : Int) : Rat) + yb * (((gR G f a b) : Int) : Rat) - ((gA G f a : Int) : Rat)) = 0 from ?_)).resolve_left ne
      have z : ((det2 (gR G f a a) (gR G f a b) (gR G f b a) (gR G f b b) : Int) : Rat) * (ya * (((gR G f a a) : Int) : Rat) + yb * (((gR G f a b) : Int) : Rat) - ((gA G f a : Int) : Rat)) = (((det2 (gR G f a a) (gR G f a b) (gR G f b a) (gR G f b b) : Int) : Rat) * ya) * (((gR G f a a) : Int) : Rat) + (((det2 (gR G f a a) (gR G f a b) (gR G f b a) (gR G f b b) : Int) : Rat) * yb) * (((gR G f a b) : Int) : Rat) - ((det2 (gR G f a a) (gR G f a b) (gR G f b a) (gR G f b b) : Int) : Rat) * ((gA G f a : Int) : Rat) := by grind
      rw [z, hya, hyb]
      unfold det2
      simp only [Rat.intCast_sub, Rat.intCast_mul, Rat.intCast_add]
      grind
    have kb : ya * (((gR G f b a) : Int) : Rat) + yb * (((gR G f b b) : Int) : Rat) - ((gA G f b : Int) : Rat) = 0 := by
      refine (Rat.mul_eq_zero.mp (show ((det2 (gR G f a a) (gR G f a b) (gR G f b a) (gR G f b b) : Int) : Rat) * (ya * (((gR G f b a) : Int) : Rat) + yb * (((gR G f b b) : Int) : Rat) - ((gA G f b : Int) : Rat)) = 0 from ?_)).resolve_left ne
      have z : ((det2 (gR G f a a) (gR G f a b) (gR G f b a) (gR G f b b) : Int) : Rat) * (ya * (((gR G f b a) : Int) : Rat) + yb * (((gR G f b b) : Int) : Rat) - ((gA G f b : Int) : Rat)) = (((det2 (gR G f a a) (gR G f a b) (gR G f b a) (gR G f b b) : Int) : Rat) * ya) * (((gR G f b a) : Int) : Rat) + (((det2 (gR G f a a) (gR G f a b) (gR G f b a) (gR G f b b) : Int) : Rat) * yb) * (((gR G f b b) : Int) : Rat) - ((det2 (gR G f a a) (gR G f a b) (gR G f b a) (gR G f b b) : Int) : Rat) * ((gA G f b : Int) : Rat) := by grind
      rw [z, hya, hyb]
      unfold det2
      simp only [Rat.intCast_sub, Rat.intCast_mul, Rat.intCast_add]
      grind
    have hl : ∀ q ∈ [(f, 1 - ya - yb), (a, ya), (b, yb)], q.1 < n := by
      intro q hq
      simp only [List.mem_cons, List.not_mem_nil, or_false] at hq
      rcases hq with rfl | rfl | rfl <;> assumption
    refine ⟨pk [(f, 1 - ya - yb), (a, ya), (b, yb)], Foot.mk' (c := (1 - ya - yb) * dot e (v f) (v f) + ya * dot e (v f) (v a) + yb * dot e (v f) (v b)) (fun k hk hp => pk_out fun q hq => ?_) ?_ (fun k hk hp => ?_), Rat.intCast_pos.mp gp, rfl, fun q hq => ?_⟩
    · simp only [List.mem_cons, List.not_mem_nil, or_false] at hq
      rcases hq with rfl | rfl | rfl <;> intro z <;> subst z <;> simp_all
    · rw [sm_pk1 hl]
      simp only [ls]
      grind
    · have hk' : k = f ∨ k = a ∨ k = b := by simpa using (mem_ch hch).mpr ⟨hk, hp⟩
      rw [dot_pk hl]
      simp only [ls]
      have sa := dot_comm e (v a) (v f)
      have sb := dot_comm e (v b) (v f)
      have sba := dot_comm e (v b) (v a)
      rcases hk' with rfl | rfl | rfl
      · grind
      · rw [caa, cab, ea] at ka
        clear kb hya hyb
        grind
      · rw [cba, cbb, eb] at kb
        clear ka hya hyb
        grind
    · have hq' : q = (f, det2 (gR G f a a) (gR G f a b) (gR G f b a) (gR G f b b) - [det2 (gA G f a) (gR G f a b) (gA G f b) (gR G f b b), det2 (gR G f a a) (gA G f a) (gR G f b a) (gA G f b)].sum) ∨ q = (a, det2 (gA G f a) (gR G f a b) (gA G f b) (gR G f b b)) ∨ q = (b, det2 (gR G f a a) (gA G f a) (gR G f b a) (gA G f b)) := by simpa [footF] using hq
      clear ka kb
      rcases hq' with rfl | rfl | rfl
      · simp only [footF, pk, if_neg n0, if_neg n1, if_neg n2, if_neg n0.symm, if_neg n1.symm, if_neg n2.symm, if_true, List.sum_cons, List.sum_nil, Rat.intCast_sub, Rat.intCast_add]
        rw [← hya, ← hyb]
        grind
      · simp only [footF, pk, if_neg n0, if_neg n1, if_neg n2, if_neg n0.symm, if_neg n1.symm, if_neg n2.symm, if_true]
        rw [← hya]
        grind
      · simp only [footF, pk, if_neg n0, if_neg n1, if_neg n2, if_neg n0.symm, if_neg n1.symm, if_neg n2.symm, if_true]
        rw [← hyb]
        grind
  | [f, a, b, c], _, _ =>
    obtain ⟨hf, pf⟩ := (mem_ch hch (k := f)).mp (by simp)
    obtain ⟨ha, pa⟩ := (mem_ch hch (k := a)).mp (by simp)
    obtain ⟨hb, pb⟩ := (mem_ch hch (k := b)).mp (by simp)
    obtain ⟨hc, pc⟩ := (mem_ch hch (k := c)).mp (by simp)
    have n0 : a ≠ f := by
      intro z
      subst z
      simp at nd
    have n1 : b ≠ f := by
      intro z
      subst z
      simp at nd
    have n2 : c ≠ f := by
      intro z
      subst z
      simp at nd
    have n3 : b ≠ a := by
      intro z
      subst z
      simp at nd
    have n4 : c ≠ a := by
      intro z
      subst z
      simp at nd
    have n5 : c ≠ b := by
      intro z
      subst z
      simp at nd
    have gp := gram3 pos (ind3 h hf ha hb hc pf pa pb pc n0 n1 n2 n3 n4 n5)
    simp only [dot_sub] at gp
    have caa : ((gR G f a a : Int) : Rat) = dot e (v a) (v a) - dot e (v f) (v a) - dot e (v f) (v a) + dot e (v f) (v f) := by
      unfold gR
      simp only [Rat.intCast_add, Rat.intCast_sub, hG _ _ hf hf, hG _ _ hf ha, hG _ _ hf ha, hG _ _ ha ha]
    have cab : ((gR G f a b : Int) : Rat) = dot e (v a) (v b) - dot e (v f) (v a) - dot e (v f) (v b) + dot e (v f) (v f) := by
      unfold gR
      simp only [Rat.intCast_add, Rat.intCast_sub, hG _ _ hf hf, hG _ _ hf ha, hG _ _ hf hb, hG _ _ ha hb]
    have cac : ((gR G f a c : Int) : Rat) = dot e (v a) (v c) - dot e (v f) (v a) - dot e (v f) (v c) + dot e (v f) (v f) := by
      unfold gR
      simp only [Rat.intCast_add, Rat.intCast_sub, hG _ _ hf hf, hG _ _ hf ha, hG _ _ hf hc, hG _ _ ha hc]
    have cba : ((gR G f b a : Int) : Rat) = dot e (v b) (v a) - dot e (v f) (v b) - dot e (v f) (v a) + dot e (v f) (v f) := by
      unfold gR
      simp only [Rat.intCast_add, Rat.intCast_sub, hG _ _ hf hf, hG _ _ hf hb, hG _ _ hf ha, hG _ _ hb ha]
    have cbb : ((gR G f b b : Int) : Rat) = dot e (v b) (v b) - dot e (v f) (v b) - dot e (v f) (v b) + dot e (v f) (v f) := by
      unfold gR
      simp only [Rat.intCast_add, Rat.intCast_sub, hG _ _ hf hf, hG _ _ hf hb, hG _ _ hf hb, hG _ _ hb hb]
    have cbc : ((gR G f b c : Int) : Rat) = dot e (v b) (v c) - dot e (v f) (v b) - dot e (v f) (v c) + dot e (v f) (v f) := by
      unfold gR
      simp only [Rat.intCast_add, Rat.intCast_sub, hG _ _ hf hf, hG _ _ hf hb, hG _ _ hf hc, hG _ _ hb hc]
    have cca : ((gR G f c a : Int) : Rat) = dot e (v c) (v a) - dot e (v f) (v c) - dot e (v f) (v a) + dot e (v f) (v f) := by
      unfold gR
      simp only [Rat.intCast_add, Rat.intCast_sub, hG _ _ hf hf, hG _ _ hf hc, hG _ _ hf ha, hG _ _ hc ha]
    have ccb : ((gR G f c b : Int) : Rat) = dot e (v c) (v b) - dot e (v f) (v c) - dot e (v f) (v b) + dot e (v f) (v f) := by
      unfold gR
      simp only [Rat.intCast_add, Rat.intCast_sub, hG _ _ hf hf, hG _ _ hf hc, hG _ _ hf hb, hG _ _ hc hb]
    have ccc : ((gR G f c c : Int) : Rat) = dot e (v c) (v c) - dot e (v f) (v c) - dot e (v f) (v c) + dot e (v f) (v f) := by
      unfold gR
      simp only [Rat.intCast_add, Rat.intCast_sub, hG _ _ hf hf, hG _ _ hf hc, hG _ _ hf hc, hG _ _ hc hc]
    have ea : ((gA G f a : Int) : Rat) = dot e (v f) (v f) - dot e (v f) (v a) := by
      unfold gA
      simp only [Rat.intCast_sub, hG _ _ hf hf, hG _ _ hf ha]
    have eb : ((gA G f b : Int) : Rat) = dot e (v f) (v f) - dot e (v f) (v b) := by
      unfold gA
      simp only [Rat.intCast_sub, hG _ _ hf hf, hG _ _ hf hb]
    have ec : ((gA G f c : Int) : Rat) = dot e (v f) (v f) - dot e (v f) (v c) := by
      unfold gA
      simp only [Rat.intCast_sub, hG _ _ hf hf, hG _ _ hf hc]
    simp only [← caa, ← cab, ← cac, ← cba, ← cbb, ← cbc, ← cca, ← ccb, ← ccc] at gp
    have gp : (0 : Rat) < ((det3 (gR G f a a) (gR G f a b) (gR G f a c) (gR G f b a) (gR G f b b) (gR G f b c) (gR G f c a) (gR G f c b) (gR G f c c) : Int) : Rat) := by
      refine (Eq.mp (congrArg _ ?_) gp)
      unfold d3 det3
      simp only [Rat.intCast_sub, Rat.intCast_mul, Rat.intCast_add]
    have ne := Rat.ne_of_gt gp
    obtain ⟨ya, hya⟩ : ∃ y, ((det3 (gR G f a a) (gR G f a b) (gR G f a c) (gR G f b a) (gR G f b b) (gR G f b c) (gR G f c a) (gR G f c b) (gR G f c c) : Int) : Rat) * y = ((det3 (gA G f a) (gR G f a b) (gR G f a c) (gA G f b) (gR G f b b) (gR G f b c) (gA G f c) (gR G f c b) (gR G f c c) : Int) : Rat) := ⟨_, div_mul ne⟩
    obtain ⟨yb, hyb⟩ : ∃ y, ((det3 (gR G f a a) (gR G f a b) (gR G f a c) (gR G f b a) (gR G f b b) (gR G f b c) (gR G f c a) (gR G f c b) (gR G f c c) : Int) : Rat) * y = ((det3 (gR G f a a) (gA G f a) (gR G f a c) (gR G f b a) (gA G f b) (gR G f b c) (gR G f c a) (gA G f c) (gR G f c c) : Int) : Rat) := ⟨_, div_mul ne⟩
    obtain ⟨yc, hyc⟩ : ∃ y, ((det3 (gR G f a a) (gR G f a b) (gR G f a c) (gR G f b a) (gR G f b b) (gR G f b c) (gR G f c a) (gR G f c b) (gR G f c c) : Int) : Rat) * y = ((det3 (gR G f a a) (gR G f a b) (gA G f a) (gR G f b a) (gR G f b b) (gA G f b) (gR G f c a) (gR G f c b) (gA G f c) : Int) : Rat) := ⟨_, div_mul ne⟩
    have ka : ya * (((gR G f a a) : Int) : Rat) + yb * (((gR G f a b) : Int) : Rat) + yc * (((gR G f a c) : Int) : Rat) - ((gA G f a : Int) : Rat) = 0 := by
      refine (Rat.mul_eq_zero.mp (show ((det3 (gR G f a a) (gR G f a b) (gR G f a c) (gR G f b a) (gR G f b b) (gR G f b c) (gR G f c a) (gR G f c b) (gR G f c c) : Int) : Rat) * (ya * (((gR G f a a) : Int) : Rat) + yb * (((gR G f a b) : Int) : Rat) + yc * (((gR G f a c) : Int) : Rat) - ((gA G f a : Int) : Rat)) = 0 from ?_)).resolve_left ne
      have z : ((det3 (gR G f a a) (gR G f a b) (gR G f a c) (gR G f b a) (gR G f b b) (gR G f b c) (gR G f c a) (gR G f c b) (gR G f c c) : Int) : Rat) * (ya * (((gR G f a a) : Int) : Rat) + yb * (((gR G f a b) : Int) : Rat) + yc * (((gR G f a c) : Int) : Rat) - ((gA G f a : Int) : Rat)) = (((det3 (gR G f a a) (gR G f a b) (gR G f a c) (gR G f b a) (gR G f b b) (gR G f b c) (gR G f c a) (gR G f c b) (gR G f c c) : Int) : Rat) * ya) * (((gR G f a a) : Int) : Rat) + (((det3 (gR G f a a) (gR G f a b) (gR G f a c) (gR G f b a) (gR G f b b) (gR G f b c) (gR G f c a) (gR G f c b) (gR G f c c) : Int) : Rat) * yb) * (((gR G f a b) : Int) : Rat) + (((det3 (gR G f a a) (gR G f a b) (gR G f a c) (gR G f b a) (gR G f b b) (gR G f b c) (gR G f c a) (gR G f c b) (gR G f c c) : Int) : Rat) * yc) * (((gR G f a c) : Int) : Rat) - ((det3 (gR G f a a) (gR G f a b) (gR G f a c) (gR G f b a) (gR G f b b) (gR G f b c) (gR G f c a) (gR G f c b) (gR G f c c) : Int) : Rat) * ((gA G f a : Int) : Rat) := by grind
      rw [z, hya, hyb, hyc]
      unfold det3
      simp only [Rat.intCast_sub, Rat.intCast_mul, Rat.intCast_add]
      grind
    have kb : ya * (((gR G f b a) : Int) : Rat) + yb * (((gR G f b b) : Int) : Rat) + yc * (((gR G f b c) : Int) : Rat) - ((gA G f b : Int) : Rat) = 0 := by
      refine (Rat.mul_eq_zero.mp (show ((det3 (gR G f a a) (gR G f a b) (gR G f a c) (gR G f b a) (gR G f b b) (gR G f b c) (gR G f c a) (gR G f c b) (gR G f c c) : Int) : Rat) * (ya * (((gR G f b a) : Int) : Rat) + yb * (((gR G f b b) : Int) : Rat) + yc * (((gR G f b c) : Int) : Rat) - ((gA G f b : Int) : Rat)) = 0 from ?_)).resolve_left ne
      have z : ((det3 (gR G f a a) (gR G f a b) (gR G f a c) (gR G f b a) (gR G f b b) (gR G f b c) (gR G f c a) (gR G f c b) (gR G f c c) : Int) : Rat) * (ya * (((gR G f b a) : Int) : Rat) + yb * (((gR G f b b) : Int) : Rat) + yc * (((gR G f b c) : Int) : Rat) - ((gA G f b : Int) : Rat)) = (((det3 (gR G f a a) (gR G f a b) (gR G f a c) (gR G f b a) (gR G f b b) (gR G f b c) (gR G f c a) (gR G f c b) (gR G f c c) : Int) : Rat) * ya) * (((gR G f b a) : Int) : Rat) + (((det3 (gR G f a a) (gR G f a b) (gR G f a c) (gR G f b a) (gR G f b b) (gR G f b c) (gR G f c a) (gR G f c b) (gR G f c c) : Int) : Rat) * yb) * (((gR G f b b) : Int) : Rat) + (((det3 (gR G f a a) (gR G f a b) (gR G f a c) (gR G f b a) (gR G f b b) (gR G f b c) (gR G f c a) (gR G f c b) (gR G f c c) : Int) : Rat) * yc) * (((gR G f b c) : Int) : Rat) - ((det3 (gR G f a a) (gR G f a b) (gR G f a c) (gR G f b a) (gR G f b b) (gR G f b c) (gR G f c a) (gR G f c b) (gR G f c c) : Int) : Rat) * ((gA G f b : Int) : Rat) := by grind
      rw [z, hya, hyb, hyc]
      unfold det3
      simp only [Rat.intCast_sub, Rat.intCast_mul, Rat.intCast_add]
      grind
    have kc : ya * (((gR G f c a) : Int) : Rat) + yb * (((gR G f c b) : Int) : Rat) + yc * (((gR G f c c) : Int) : Rat) - ((gA G f c : Int) : Rat) = 0 := by
      refine (Rat.mul_eq_zero.mp (show ((det3 (gR G f a a) (gR G f a b) (gR G f a c) (gR G f b a) (gR G f b b) (gR G f b c) (gR G f c a) (gR G f c b) (gR G f c c) : Int) : Rat) * (ya * (((gR G f c a) : Int) : Rat) + yb * (((gR G f c b) : Int) : Rat) + yc * (((gR G f c c) : Int) : Rat) - ((gA G f c : Int) : Rat)) = 0 from ?_)).resolve_left ne
      have z : ((det3 (gR G f a a) (gR G f a b) (gR G f a c) (gR G f b a) (gR G f b b) (gR G f b c) (gR G f c a) (gR G f c b) (gR G f c c) : Int) : Rat) * (ya * (((gR G f c a) : Int) : Rat) + yb * (((gR G f c b) : Int) : Rat) + yc * (((gR G f c c) : Int) : Rat) - ((gA G f c : Int) : Rat)) = (((det3 (gR G f a a) (gR G f a b) (gR G f a c) (gR G f b a) (gR G f b b) (gR G f b c) (gR G f c a) (gR G f c b) (gR G f c c) : Int) : Rat) * ya) * (((gR G f c a) : Int) : Rat) + (((det3 (gR G f a a) (gR G f a b) (gR G f a c) (gR G f b a) (gR G f b b) (gR G f b c) (gR G f c a) (gR G f c b) (gR G f c c) : Int) : Rat) * yb) * (((gR G f c b) : Int) : Rat) + (((det3 (gR G f a a) (gR G f a b) (gR G f a c) (gR G f b a) (gR G f b b) (gR G f b c) (gR G f c a) (gR G f c b) (gR G f c c) : Int) : Rat) * yc) * (((gR G f c c) : Int) : Rat) - ((det3 (gR G f a a) (gR G f a b) (gR G f a c) (gR G f b a) (gR G f b b) (gR G f b c) (gR G f c a) (gR G f c b) (gR G f c c) : Int) : Rat) * ((gA G f c : Int) : Rat) := by grind
      rw [z, hya, hyb, hyc]
      unfold det3
      simp only [Rat.intCast_sub, Rat.intCast_mul, Rat.intCast_add]
      grind
    have hl : ∀ q ∈ [(f, 1 - ya - yb - yc), (a, ya), (b, yb), (c, yc)], q.1 < n := by
      intro q hq
      simp only [List.mem_cons, List.not_mem_nil, or_false] at hq
      rcases hq with rfl | rfl | rfl | rfl <;> assumption
    refine ⟨pk [(f, 1 - ya - yb - yc), (a, ya), (b, yb), (c, yc)], Foot.mk' (c := (1 - ya - yb - yc) * dot e (v f) (v f) + ya * dot e (v f) (v a) + yb * dot e (v f) (v b) + yc * dot e (v f) (v c)) (fun k hk hp => pk_out fun q hq => ?_) ?_ (fun k hk hp => ?_), Rat.intCast_pos.mp gp, rfl, fun q hq => ?_⟩
    · simp only [List.mem_cons, List.not_mem_nil, or_false] at hq
      rcases hq with rfl | rfl | rfl | rfl <;> intro z <;> subst z <;> simp_all
    · rw [sm_pk1 hl]
      simp only [ls]
      grind
    · have hk' : k = f ∨ k = a ∨ k = b ∨ k = c := by simpa using (mem_ch hch).mpr ⟨hk, hp⟩
      rw [dot_pk hl]
      simp only [ls]
      have sa := dot_comm e (v a) (v f)
      have sb := dot_comm e (v b) (v f)
      have sc := dot_comm e (v c) (v f)
      have sba := dot_comm e (v b) (v a)
      have sca := dot_comm e (v c) (v a)
      have scb := dot_comm e (v c) (v b)
      rcases hk' with rfl | rfl | rfl | rfl
      · grind
      · rw [caa, cab, cac, ea] at ka
        clear kb kc hya hyb hyc
        grind
      · rw [cba, cbb, cbc, eb] at kb
        clear ka kc hya hyb hyc
        grind
      · rw [cca, ccb, ccc, ec] at kc
        clear ka kb hya hyb hyc
        grind
    · have hq' : q = (f, det3 (gR G f a a) (gR G f a b) (gR G f a c) (gR G f b a) (gR G f b b) (gR G f b c) (gR G f c a) (gR G f c b) (gR G f c c) - [det3 (gA G f a) (gR G f a b) (gR G f a c) (gA G f b) (gR G f b b) (gR G f b c) (gA G f c) (gR G f c b) (gR G f c c), det3 (gR G f a a) (gA G f a) (gR G f a c) (gR G f b a) (gA G f b) (gR G f b c) (gR G f c a) (gA G f c) (gR G f c c), det3 (gR G f a a) (gR G f a b) (gA G f a) (gR G f b a) (gR G f b b) (gA G f b) (gR G f c a) (gR G f c b) (gA G f c)].sum) ∨ q = (a, det3 (gA G f a) (gR G f a b) (gR G f a c) (gA G f b) (gR G f b b) (gR G f b c) (gA G f c) (gR G f c b) (gR G f c c)) ∨ q = (b, det3 (gR G f a a) (gA G f a) (gR G f a c) (gR G f b a) (gA G f b) (gR G f b c) (gR G f c a) (gA G f c) (gR G f c c)) ∨ q = (c, det3 (gR G f a a) (gR G f a b) (gA G f a) (gR G f b a) (gR G f b b) (gA G f b) (gR G f c a) (gR G f c b) (gA G f c)) := by simpa [footF] using hq
      clear ka kb kc
      rcases hq' with rfl | rfl | rfl | rfl
      · simp only [footF, pk, if_neg n0, if_neg n1, if_neg n2, if_neg n3, if_neg n4, if_neg n5, if_neg n0.symm, if_neg n1.symm, if_neg n2.symm, if_neg n3.symm, if_neg n4.symm, if_neg n5.symm, if_true, List.sum_cons, List.sum_nil, Rat.intCast_sub, Rat.intCast_add]
        rw [← hya, ← hyb, ← hyc]
        grind
      · simp only [footF, pk, if_neg n0, if_neg n1, if_neg n2, if_neg n3, if_neg n4, if_neg n5, if_neg n0.symm, if_neg n1.symm, if_neg n2.symm, if_neg n3.symm, if_neg n4.symm, if_neg n5.symm, if_true]
        rw [← hya]
        grind
      · simp only [footF, pk, if_neg n0, if_neg n1, if_neg n2, if_neg n3, if_neg n4, if_neg n5, if_neg n0.symm, if_neg n1.symm, if_neg n2.symm, if_neg n3.symm, if_neg n4.symm, if_neg n5.symm, if_true]
        rw [← hyb]
        grind
      · simp only [footF, pk, if_neg n0, if_neg n1, if_neg n2, if_neg n3, if_neg n4, if_neg n5, if_neg n0.symm, if_neg n1.symm, if_neg n2.symm, if_neg n3.symm, if_neg n4.symm, if_neg n5.symm, if_true]
        rw [← hyc]
        grind
end Mt
end Li
set_option Elab.async false
set_option linter.all false
set_option maxHeartbeats 2000000
/-! Mt4: the nearest point is the foot of few. -/
namespace Li
namespace Mt
variable {e : V3} {n : Nat} {v : Nat → V3} {p : Nat → Bool}
structure Cand (e : V3) (n : Nat) (v : Nat → V3) (p : Nat → Bool) (r : Rat) : Prop where
  ind : AffInd n v p
  few : ((List.range n).filter p).length ≤ 4
  ex : ∃ x, Foot e n v p x ∧ (∀ k, k < n → 0 ≤ x k) ∧ dot e (pt n v x) (pt n v x) = r
theorem dot_of {y : Nat → Rat} {x : Nat → Rat} (F : Foot e n v p x) (hs : ∀ k, k < n → p k = false → y k = 0) (h1 : sm n y = 1) : dot e (pt n v y) (pt n v x) = dot e (pt n v x) (pt n v x) := by
  rw [dot_pt, show dot e (pt n v x) (pt n v x) = dot e (pt n v x) (pt n v x) * 1 by grind, ← h1, ← sm_mul]
  refine sm_congr fun k hk => ?_
  cases q : p k with
  | false =>
    rw [hs k hk q]
    grind
  | true =>
    rw [F.orth k hk q]
    grind
theorem cand_uniq {r r' : Rat} (h : Cand e n v p r) (h' : Cand e n v p r') : r = r' := by
  obtain ⟨x, F, _, rfl⟩ := h.ex
  obtain ⟨x', F', _, rfl⟩ := h'.ex
  have a := dot_of F F'.supp F'.one
  have b := dot_of F' F.supp F.one
  rw [dot_comm] at b
  exact a.symm.trans b
theorem exists_min {α : Type} (f : α → Rat) : ∀ {l : List α}, l ≠ [] → ∃ a ∈ l, ∀ b ∈ l, f a ≤ f b
  | [], h => absurd rfl h
  | [a], _ => ⟨a, List.mem_cons_self, fun b hb => by
    rw [List.mem_singleton.mp hb]
    exact Rat.le_refl⟩
  | a :: b :: r, _ => by
    obtain ⟨c, hc, hm⟩ := exists_min f (l := b :: r) (by simp)
    rcases Rat.le_total (a := f a) (b := f c) with h | h
    · refine ⟨a, List.mem_cons_self, fun d hd => ?_⟩
      rcases List.mem_cons.mp hd with rfl | hd
      · exact Rat.le_refl
      · exact Rat.le_trans h (hm d hd)
    · refine ⟨c, List.mem_cons_of_mem _ hc, fun d hd => ?_⟩
      rcases List.mem_cons.mp hd with rfl | hd
      · exact h
      · exact hm d hd
theorem dot_ge (pos : Pos e) {x y : Nat → Rat} (F : Foot e n v p x) (hs : ∀ k, k < n → p k = false → y k = 0) (h1 : sm n y = 1) : dot e (pt n v x) (pt n v x) ≤ dot e (pt n v y) (pt n v y) := by
  have a := dot_of F hs h1
  have q := dot_nn pos (sub (pt n v y) (pt n v x))
  rw [dot_sub, dot_comm e (pt n v x) (pt n v y), a] at q
  grind
theorem pt_mix {x y : Nat → Rat} (l : Rat) : pt n v (fun k => y k + l * (x k - y k)) = lin3 (1 - l) (pt n v y) l (pt n v x) 0 (pt n v x) := by
  have key : ∀ g : Nat → Rat, (sm n fun k => (y k + l * (x k - y k)) * g k) = (1 - l) * (sm n fun k => y k * g k) + l * (sm n fun k => x k * g k) := fun g => by
    rw [← sm_mul, ← sm_mul, ← sm_add]
    refine sm_congr fun k _ => ?_
    grind
  unfold pt lin3
  rw [key, key, key]
  refine Prod.ext ?_ (Prod.ext ?_ ?_) <;> simp only [] <;> grind
theorem sm_mix {x y : Nat → Rat} (l : Rat) : sm n (fun k => y k + l * (x k - y k)) = (1 - l) * sm n y + l * sm n x := by
  rw [← sm_mul, ← sm_mul, ← sm_add]
  refine sm_congr fun k _ => ?_
  grind
theorem dot_mix {Y W : V3} {l : Rat} (h0 : 0 ≤ l) (h1 : l ≤ 1) (hYW : dot e Y W = dot e W W) (hle : dot e W W ≤ dot e Y Y) : dot e (lin3 (1 - l) Y l W 0 W) (lin3 (1 - l) Y l W 0 W) ≤ dot e Y Y := by
  simp only [dot_lin, dot_linr]
  rw [dot_comm e W Y, hYW]
  have h2 : 0 ≤ l * (2 - l) := Rat.mul_nonneg h0 (by grind)
  have h3 := Rat.mul_nonneg h2 (show 0 ≤ dot e Y Y - dot e W W by grind)
  grind
theorem div_le {a b : Rat} (hb : 0 < b) (ha : 0 ≤ a) (hab : a ≤ b) : 0 ≤ a / b ∧ a / b ≤ 1 := by
  have e1 : a / b * b = a := Rat.div_mul_cancel (Rat.ne_of_gt hb)
  refine ⟨?_, ?_⟩
  · refine Rat.le_of_mul_le_mul_right ?_ hb
    rw [e1]
    grind
  · refine Rat.le_of_mul_le_mul_right ?_ hb
    rw [e1]
    grind
theorem rlt (a b : Rat) : a < b ∨ b ≤ a := (Classical.em (a < b)).imp id Rat.not_lt.mp
theorem descent {G : Nat → Nat → Int} (pos : Pos e) (hG : ∀ i j, i < n → j < n → (G i j : Rat) = dot e (v i) (v j)) : ∀ (m : Nat) (p : Nat → Bool) (y : Nat → Rat), ((List.range n).filter p).length ≤ m → ((List.range n).filter p).length ≤ 4 → AffInd n v p → (∀ k, k < n → 0 ≤ y k) → (∀ k, k < n → p k = false → y k = 0) → sm n y = 1 →
    ∃ q r, Cand e n v q r ∧ r ≤ dot e (pt n v y) (pt n v y) := by
  intro m
  induction m with
  | zero =>
    intro p y hm _ _ _ hs h1
    have : (List.range n).filter p = [] := List.eq_nil_of_length_eq_zero (by omega)
    rw [sm_zero fun k hk => hs k hk (by
      cases q : p k with
      | false => rfl
      | true =>
        have : k ∈ (List.range n).filter p := List.mem_filter.mpr ⟨List.mem_range.mpr hk, q⟩
        rw [‹(List.range n).filter p = []›] at this
        cases this)] at h1
    exact absurd h1 (by decide)
  | succ m ih =>
    intro p y hm h4 hi hy hs h1
    have hne : 1 ≤ ((List.range n).filter p).length := by
      rcases Nat.eq_zero_or_pos ((List.range n).filter p).length with z | z
      · have hnil : (List.range n).filter p = [] := List.eq_nil_of_length_eq_zero z
        rw [sm_zero fun k hk => hs k hk (by
          cases q : p k with
          | false => rfl
          | true =>
            have : k ∈ (List.range n).filter p := List.mem_filter.mpr ⟨List.mem_range.mpr hk, q⟩
            rw [hnil] at this
            cases this)] at h1
        exact absurd h1 (by decide)
      · exact z
    obtain ⟨x, F, _, _, _⟩ := foot_ex (G := G) pos hG _ rfl hne h4 hi
    by_cases hx : ∀ k, k < n → 0 ≤ x k
    · exact ⟨p, _, ⟨hi, h4, x, F, hx, rfl⟩, dot_ge pos F hs h1⟩
    · have hneg : ((List.range n).filter fun k => decide (x k < 0)) ≠ [] := fun z => hx fun k hk => by
        rcases rlt (x k) 0 with q | q
        · have : k ∈ (List.range n).filter fun k => decide (x k < 0) := List.mem_filter.mpr ⟨List.mem_range.mpr hk, decide_eq_true q⟩
          rw [z] at this
          cases this
        · exact q
      obtain ⟨k0, hk0, hmin⟩ := exists_min (fun k => y k / (y k - x k)) hneg
      obtain ⟨hk0n, hk0x⟩ := List.mem_filter.mp hk0
      have hk0n := List.mem_range.mp hk0n
      have hk0x := of_decide_eq_true hk0x
      have hy0 := hy k0 hk0n
      obtain ⟨l0, l1⟩ := div_le (a := y k0) (b := y k0 - x k0) (by grind) hy0 (by grind)
      have le0 : y k0 / (y k0 - x k0) * (y k0 - x k0) = y k0 := Rat.div_mul_cancel (Rat.ne_of_gt (by grind))
      generalize hl : y k0 / (y k0 - x k0) = l at l0 l1 le0 hmin
      have hp0 : p k0 = true := by
        cases q : p k0 with
        | true => rfl
        | false =>
          rw [F.supp k0 hk0n q] at hk0x
          exact absurd hk0x (by decide)
      have hlen : ((List.range n).filter fun k => decide (k ≠ k0) && p k).length < ((List.range n).filter p).length := by
        rw [← List.filter_filter]
        exact List.length_filter_lt_length_iff_exists.mpr ⟨k0, List.mem_filter.mpr ⟨List.mem_range.mpr hk0n, hp0⟩, by simp⟩
      have z1 : ∀ k, k < n → 0 ≤ y k + l * (x k - y k) := fun k hk => by
        have hyk := hy k hk
        rcases rlt (x k) 0 with z | z
        · have h2 := hmin k (List.mem_filter.mpr ⟨List.mem_range.mpr hk, decide_eq_true z⟩)
          have h3 := Rat.mul_le_mul_of_nonneg_right h2 (show 0 ≤ y k - x k by grind)
          rw [Rat.div_mul_cancel (Rat.ne_of_gt (show 0 < y k - x k by grind))] at h3
          grind
        · have h2 := Rat.mul_nonneg (show 0 ≤ 1 - l by grind) hyk
          have h3 := Rat.mul_nonneg l0 z
          grind
      have z2 : ∀ k, k < n → (decide (k ≠ k0) && p k) = false → y k + l * (x k - y k) = 0 := fun k hk hq => by
        rcases Bool.and_eq_false_iff.mp hq with z | z
        · have : k = k0 := by simpa using z
          subst this
          grind
        · have a := hs k hk z
          have b := F.supp k hk z
          rw [a, b]
          grind
      have z3 : sm n (fun k => y k + l * (x k - y k)) = 1 := by
        rw [sm_mix, h1, F.one]
        grind
      obtain ⟨q, r, hc, hr⟩ := ih (fun k => decide (k ≠ k0) && p k) (fun k => y k + l * (x k - y k)) (by omega) (by omega) (hi.sub fun k _ hk => (Bool.and_eq_true_iff.mp hk).2) z1 z2 z3
      refine ⟨q, r, hc, Rat.le_trans hr ?_⟩
      rw [pt_mix]
      exact dot_mix l0 l1 (dot_of F hs h1) (dot_ge pos F hs h1)
/-! ### no five in three dimensions -/
def det (a b c : V3) : Rat := a.1 * (b.2.1 * c.2.2 - b.2.2 * c.2.1) - a.2.1 * (b.1 * c.2.2 - b.2.2 * c.1) + a.2.2 * (b.1 * c.2.1 - b.2.1 * c.1)
theorem gram_det (e a b c : V3) : d3 (dot e a a) (dot e a b) (dot e a c) (dot e b a) (dot e b b) (dot e b c) (dot e c a) (dot e c b) (dot e c c) = e.1 * e.2.1 * e.2.2 * (det a b c * det a b c) := by
  unfold d3 dot det
  grind
theorem no_five (pos : Pos e) (h : AffInd n v p) (h5 : ((List.range n).filter p).length = 5) : False := by
  obtain ⟨f, a, b, c, d, hch⟩ : ∃ f a b c d, (List.range n).filter p = [f, a, b, c, d] := by
    match (List.range n).filter p, h5 with
    | [f, a, b, c, d], _ => exact ⟨f, a, b, c, d, rfl⟩
  have nd := nodup_ch hch
  obtain ⟨hf, pf⟩ := (mem_ch hch (k := f)).mp (by simp)
  obtain ⟨ha, pa⟩ := (mem_ch hch (k := a)).mp (by simp)
  obtain ⟨hb, pb⟩ := (mem_ch hch (k := b)).mp (by simp)
  obtain ⟨hc, pc⟩ := (mem_ch hch (k := c)).mp (by simp)
  obtain ⟨hd, pd⟩ := (mem_ch hch (k := d)).mp (by simp)
  simp only [List.nodup_cons, List.mem_cons, List.not_mem_nil, or_false, not_or, not_false_eq_true, List.nodup_nil, and_true] at nd
  obtain ⟨⟨n1, n2, n3, n4⟩, ⟨n5, n6, n7⟩, ⟨n8, n9⟩, n10⟩ := nd
  have gp := gram3 pos (ind3 h hf ha hb hc pf pa pb pc (Ne.symm n1) (Ne.symm n2) (Ne.symm n3) (Ne.symm n5) (Ne.symm n6) (Ne.symm n8))
  rw [gram_det] at gp
  have hl : ∀ q ∈ [(f, -(det (sub (v d) (v f)) (sub (v b) (v f)) (sub (v c) (v f))) - det (sub (v a) (v f)) (sub (v d) (v f)) (sub (v c) (v f)) - det (sub (v a) (v f)) (sub (v b) (v f)) (sub (v d) (v f)) + det (sub (v a) (v f)) (sub (v b) (v f)) (sub (v c) (v f))),
      (a, det (sub (v d) (v f)) (sub (v b) (v f)) (sub (v c) (v f))), (b, det (sub (v a) (v f)) (sub (v d) (v f)) (sub (v c) (v f))), (c, det (sub (v a) (v f)) (sub (v b) (v f)) (sub (v d) (v f))), (d, -det (sub (v a) (v f)) (sub (v b) (v f)) (sub (v c) (v f)))], q.1 < n := by
    intro q hq
    simp only [List.mem_cons, List.not_mem_nil, or_false] at hq
    rcases hq with rfl | rfl | rfl | rfl | rfl <;> assumption
  have z := h (pk [(f, -(det (sub (v d) (v f)) (sub (v b) (v f)) (sub (v c) (v f))) - det (sub (v a) (v f)) (sub (v d) (v f)) (sub (v c) (v f)) - det (sub (v a) (v f)) (sub (v b) (v f)) (sub (v d) (v f)) + det (sub (v a) (v f)) (sub (v b) (v f)) (sub (v c) (v f))),
      (a, det (sub (v d) (v f)) (sub (v b) (v f)) (sub (v c) (v f))), (b, det (sub (v a) (v f)) (sub (v d) (v f)) (sub (v c) (v f))), (c, det (sub (v a) (v f)) (sub (v b) (v f)) (sub (v d) (v f))), (d, -det (sub (v a) (v f)) (sub (v b) (v f)) (sub (v c) (v f)))]) (fun k _ hk => pk_out fun q hq => by
    simp only [List.mem_cons, List.not_mem_nil, or_false] at hq
    rcases hq with rfl | rfl | rfl | rfl | rfl <;> intro z <;> subst z <;> simp_all) (by
    rw [sm_pk1 hl]
    simp only [ls]
    grind) (by
    rw [pt_pk hl]
    simp only [ls]
    unfold det sub
    refine Prod.ext ?_ (Prod.ext ?_ ?_) <;> simp only [] <;> grind) d hd
  simp only [pk, if_neg (Ne.symm n4), if_neg (Ne.symm n7), if_neg (Ne.symm n9), if_neg (Ne.symm n10), if_true] at z
  have z2 : det (sub (v a) (v f)) (sub (v b) (v f)) (sub (v c) (v f)) = 0 := by grind
  rw [z2] at gp
  simp at gp
/-- one more point, toward which it goes down -/
theorem AffInd.more {x : Nat → Rat} {j : Nat} (hi : AffInd n v p) (F : Foot e n v p x) (hj : j < n) (hlt : dot e (v j) (pt n v x) < dot e (pt n v x) (pt n v x)) : AffInd n v fun k => decide (k = j) || p k := fun c hs h0 hz => by
  have key : sm n (fun k => c k * dot e (v k) (pt n v x)) = 0 := by
    rw [← dot_pt, hz]
    unfold dot
    grind
  have key2 : sm n (fun k => c k * dot e (v k) (pt n v x) + (if k = j then c j * (dot e (pt n v x) (pt n v x) - dot e (v j) (pt n v x)) else 0)) = dot e (pt n v x) (pt n v x) * sm n c := by
    rw [← sm_mul]
    refine sm_congr fun k hk => ?_
    by_cases q : k = j
    · subst q
      rw [if_pos rfl]
      grind
    · rw [if_neg q]
      cases r : p k with
      | true =>
        rw [F.orth k hk r]
        grind
      | false =>
        rw [hs k hk (by simp [q, r])]
        grind
  rw [sm_add, key, sm_single _ hj, h0] at key2
  have hcj : c j = 0 := by
    have : c j * (dot e (pt n v x) (pt n v x) - dot e (v j) (pt n v x)) = 0 := by grind
    refine (Rat.mul_eq_zero.mp this).resolve_right fun z => ?_
    have : dot e (pt n v x) (pt n v x) = dot e (v j) (pt n v x) := by grind
    rw [this] at hlt
    exact Rat.lt_irrefl hlt
  exact hi c (fun k hk hp => by
    by_cases q : k = j
    · rw [q]
      exact hcj
    · exact hs k hk (by simp [q, hp])) h0 hz
def allP : Nat → List (Nat → Bool)
  | 0 => [fun _ => false]
  | n + 1 => (allP n).flatMap fun q => [fun k => if k = n then true else q k, fun k => if k = n then false else q k]
theorem allP_all : ∀ (n : Nat) (p : Nat → Bool), ∃ q ∈ allP n, ∀ k, k < n → q k = p k
  | 0, p => ⟨_, List.mem_cons_self, fun k hk => by omega⟩
  | n + 1, p => by
    obtain ⟨q, hq, h⟩ := allP_all n p
    refine ⟨fun k => if k = n then p n else q k, List.mem_flatMap.mpr ⟨q, hq, ?_⟩, fun k hk => ?_⟩
    · cases e : p n <;> simp [e]
    · show (if k = n then p n else q k) = p k
      by_cases z : k = n
      · rw [if_pos z, z]
      · rw [if_neg z]
        exact h k (by omega)
theorem Cand.congr {p q : Nat → Bool} {r : Rat} (h : Cand e n v p r) (hq : ∀ k, k < n → q k = p k) : Cand e n v q r := by
  obtain ⟨x, F, h1, h2⟩ := h.ex
  refine ⟨h.ind.sub fun k hk z => by rw [← hq k hk]; exact z, ?_, x, ⟨fun k hk z => F.supp k hk (by rw [← hq k hk]; exact z), F.one, fun k hk z => F.orth k hk (by rw [← hq k hk]; exact z)⟩, h1, h2⟩
  rw [List.filter_congr fun k hk => hq k (List.mem_range.mp hk)]
  exact h.few
theorem one_ind (h0 : 1 ≤ n) : AffInd n v fun k => decide (k = 0) := fun x hx h1 _ k hk => by
  have e : sm n x = x 0 := by
    rw [← sm_single (n := n) (j := 0) (x 0) (by omega)]
    refine sm_congr fun k hk => ?_
    by_cases q : k = 0
    · rw [if_pos q, q]
    · rw [if_neg q, hx k hk (by simpa using q)]
  by_cases q : k = 0
  · rw [q, ← e, h1]
  · exact hx k hk (by simpa using q)
theorem single_len (j : Nat) : ((List.range n).filter fun k => decide (k = j)).length ≤ 1 := by
  have nd : ((List.range n).filter fun k => decide (k = j)).Nodup := List.Nodup.sublist List.filter_sublist List.nodup_range
  have al : ∀ k ∈ (List.range n).filter fun k => decide (k = j), k = j := fun k hk => of_decide_eq_true (List.mem_filter.mp hk).2
  match h : (List.range n).filter fun k => decide (k = j) with
  | [] => simp
  | [_] => simp
  | a :: b :: r =>
    rw [h] at nd al
    have h1 := al a (by simp)
    have h2 := al b (by simp)
    rw [h1, h2] at nd
    simp at nd
theorem or_len (p q : Nat → Bool) : ∀ l : List Nat, (l.filter fun k => p k || q k).length ≤ (l.filter p).length + (l.filter q).length
  | [] => by simp
  | a :: r => by
    have := or_len p q r
    cases h1 : p a <;> cases h2 : q a <;> simp [List.filter_cons, h1, h2] <;> omega
/-- THE NEAREST: a foot of at most four, to which no point is nearer -/
theorem exists_kkt {G : Nat → Nat → Int} (pos : Pos e) (hG : ∀ i j, i < n → j < n → (G i j : Rat) = dot e (v i) (v j)) (h0 : 1 ≤ n) : ∃ p x, AffInd n v p ∧ ((List.range n).filter p).length ≤ 4 ∧ Foot e n v p x ∧ (∀ k, k < n → 0 ≤ x k) ∧ ∀ j, j < n → dot e (pt n v x) (pt n v x) ≤ dot e (v j) (pt n v x) := by
  -- one point alone is a candidate
  obtain ⟨q0, r0, c0, _⟩ := descent (G := G) (n := n) (v := v) pos hG 1 (fun k => decide (k = 0)) (fun k => if k = 0 then 1 else 0) (single_len 0) (Nat.le_trans (single_len 0) (by decide)) (one_ind h0) (fun k _ => by
    show (0 : Rat) ≤ if k = 0 then 1 else 0
    split
    · decide
    · decide) (fun k _ hk => if_neg (by simpa using hk)) (sm_single 1 (by omega))
  have cls : ∀ q, Decidable (∃ r, Cand e n v q r) := fun q => Classical.propDecidable _
  let f : (Nat → Bool) → Rat := fun q => match cls q with
    | isTrue h => Classical.choose h
    | isFalse _ => 0
  have hf : ∀ q r, Cand e n v q r → f q = r := fun q r h => by
    show (match cls q with
    | isTrue h => Classical.choose h
    | isFalse _ => 0) = r
    cases cls q with
    | isTrue z => exact cand_uniq (Classical.choose_spec z) h
    | isFalse z => exact absurd ⟨r, h⟩ z
  have inL : ∀ q r, Cand e n v q r → ∃ q' ∈ (allP n).filter fun q => @decide _ (cls q), Cand e n v q' r := fun q r h => by
    obtain ⟨q', hq', e'⟩ := allP_all n q
    have h' := h.congr e'
    exact ⟨q', List.mem_filter.mpr ⟨hq', @decide_eq_true _ (cls q') ⟨r, h'⟩⟩, h'⟩
  obtain ⟨q1, hq1, _⟩ := inL q0 r0 c0
  obtain ⟨p, hp, hmin⟩ := exists_min f (l := (allP n).filter fun q => @decide _ (cls q)) (List.ne_nil_of_mem hq1)
  obtain ⟨r, hr⟩ := @of_decide_eq_true _ (cls p) (List.mem_filter.mp hp).2
  obtain ⟨x, F, hx, hxr⟩ := hr.ex
  refine ⟨p, x, hr.ind, hr.few, F, hx, fun j hj => Rat.not_lt.mp fun hlt => ?_⟩
  have ind' := hr.ind.more F hj hlt
  have l5 : ((List.range n).filter fun k => decide (k = j) || p k).length ≤ 4 := by
    have h1 := or_len (fun k => decide (k = j)) p (List.range n)
    have h2 := single_len (n := n) j
    have h3 := hr.few
    rcases Nat.lt_or_ge 4 ((List.range n).filter fun k => decide (k = j) || p k).length with z | z
    · exact (no_five pos ind' (by omega)).elim
    · exact z
  have ptj : pt n v (fun k => if k = j then 1 else 0) = v j := by
    have key : ∀ g : Nat → Rat, sm n (fun k => (if k = j then 1 else 0) * g k) = g j := fun g => by
      rw [← sm_single (n := n) (j := j) (g j) hj]
      refine sm_congr fun k _ => ?_
      by_cases q : k = j
      · rw [if_pos q, if_pos q, q]
        grind
      · rw [if_neg q, if_neg q]
        grind
    unfold pt
    rw [key, key, key]
  generalize hW : pt n v x = W at *
  have hB := dot_nn pos (sub (v j) W)
  rw [dot_sub, dot_comm e W (v j)] at hB
  generalize hA : dot e W W - dot e (v j) W = A at *
  have hA0 : 0 < A := by grind
  generalize hBB : dot e (v j) (v j) - dot e (v j) W - dot e (v j) W + dot e W W = B at *
  obtain ⟨e0, e1⟩ := div_le (a := A) (b := A + B) (by grind) (by grind) (by grind)
  have ee : A / (A + B) * (A + B) = A := Rat.div_mul_cancel (Rat.ne_of_gt (by grind))
  generalize A / (A + B) = ε at *
  have ep : 0 < ε := by
    rcases rlt 0 ε with q | q
    · exact q
    · have : ε = 0 := by grind
      rw [this] at ee
      grind
  obtain ⟨q, r', hc, hle⟩ := descent (G := G) (n := n) (v := v) pos hG 4 (fun k => decide (k = j) || p k) (fun k => x k + ε * ((if k = j then 1 else 0) - x k)) l5 l5 ind' (fun k hk => by
    have h1 := Rat.mul_nonneg (show 0 ≤ 1 - ε by grind) (hx k hk)
    have h2 : 0 ≤ ε * (if k = j then 1 else 0) := Rat.mul_nonneg e0 (by split <;> decide)
    grind) (fun k hk hp => by
    obtain ⟨h1, h2⟩ := Bool.or_eq_false_iff.mp hp
    have h1 : k ≠ j := by simpa using h1
    rw [if_neg h1, F.supp k hk h2]
    grind) (by
    rw [sm_mix, F.one, sm_single 1 hj]
    grind)
  rw [pt_mix, ptj, hW] at hle
  simp only [dot_lin, dot_linr] at hle
  rw [dot_comm e W (v j)] at hle
  obtain ⟨q', hq', hc'⟩ := inL q r' hc
  have m1 := hmin q' hq'
  rw [hf p r hr, hf q' r' hc'] at m1
  have h3 := Rat.mul_pos ep hA0
  have h4 := Rat.mul_nonneg e0 (Rat.le_of_lt h3)
  have expand : (1 - ε) * ((1 - ε) * dot e W W + ε * dot e (v j) W + 0 * dot e (v j) W) + ε * ((1 - ε) * dot e (v j) W + ε * dot e (v j) (v j) + 0 * dot e (v j) (v j)) + 0 * ((1 - ε) * dot e (v j) W + ε * dot e (v j) (v j) + 0 * dot e (v j) (v j)) = dot e W W - 2 * ε * A + ε * (ε * B) := by
    rw [← hA, ← hBB]
    grind
  have fin : ε * (ε * B) = ε * A - ε * (ε * A) := by grind
  grind
end Mt
end Li
set_option Elab.async false
set_option linter.all false
set_option maxRecDepth 100000
set_option maxHeartbeats 2000000
/-! Lg6: the choices. -/
namespace Li
open PySem
local macro_rules | `(tactic| walk_at "li") => `(tactic| simp only [evD, evSs, evS, evE, evEs, evI, evO, evIt, slotQ_0, slotQ_s, cloQ_0, cloQ_s, capQ_nil, capQ_cons, intQ_i, adrQ_a, lstQ_l, tupQ_t, dctQ_d, optQ_s, gvalQ_v, brV_s, asL_l, truV_b, truV_n, truV_i, lenV_t, lenV_s, lenV_l, idxV_t, idxV_s, idxV_l, atI_0, atI_1, atI_2, atI_3, bin_add, bin_sub, bin_mul, bin_div, bin_mod, bin_pow, bin_shl, bin_shr, bin_and, bin_addL, bin_addT, aug_add, aug_sub, aug_mul, cmp_lt, cmp_le, cmp_gt, cmp_ge, cmp_is, cmp_isnt, cmp_eq, cmp_ne, tst_e, wipe_nil, wipe_cons, asg_one, asg_many, asgs_nil, asgs_cons, seqV_t, seqV_s, seqV_l, chkV_t, chkV_l, chkV_s, chkV_a, callG_fn, isCal_fn, isCal_cls, isCalk_fn, callK_fn, frz_nil, puSp_run, bf_len, bf_abs, bf_int, bf_intb, bf_tupT, bf_tupL, bf_listL, bf_listT, bf_min2, bf_max2, bf_isi, slc_l, slc_t, slc_s, fld_i, setB, tabA_hit, isi_tt, isi_ti, isi_ii, isi_it, isi_ib, isi_bi, isi_bb, isi_ss, Cxt.nox, natI_0, natI_1, natI_2, natI_3, natI_4, natI_5, natI_6, natI_7, Bool.not_true, Bool.not_false, decide_true, decide_false, Bool.false_eq_true, if_true, if_false, celQ_set, idxV_set, Sto.set_set, ixN_30, ixN_31, ixN_32, enumV_n, enumV_c, zipV_n, zipV_c, objQ_set, isNon_n, isNon_t, isNon_i, setC_l, dropC_n, dropC_s, dropC_a, cellOf_0, cellOf_s, cellOf_n, frz_cons, frz1_s, frz1_n, sbst_t, sbst_l, sbst_i, sbst_b, sbst_non, sbst_str, sbst_a, sbsts_n, sbsts_c, bin_addLA_set, lenV_set, seqV_set, bf_tupA_set, bmP_app, bmV_app, bf_sum_set, bf_sum_l, asInts_n, asInts_c, Option.map_some, sz_0, sz_1, sz_2, sz_3, sz_4, sz_5, sz_6, sz_7, List.map_cons, List.map_nil, List.length_cons, List.length_nil, List.cons_append, List.nil_append, List.append_nil, List.drop_nil, List.set_cons_zero, List.set_cons_succ, List.replicate_succ, List.replicate_zero, Nat.reduceSub, Nat.reduceAdd, decide_eq_true_eq, true_and, and_true])
local macro_rules | `(tactic| walk_at "lc") => `(tactic| simp only [evD, evSs, evS, evE, evEs, evI, evO, evIt, slotQ_0, slotQ_s, cloQ_0, cloQ_s, capQ_nil, capQ_cons, intQ_i, adrQ_a, lstQ_l, tupQ_t, dctQ_d, optQ_s, gvalQ_v, brV_s, asL_l, truV_b, truV_n, truV_i, lenV_t, lenV_s, lenV_l, idxV_t, idxV_s, idxV_l, atI_0, atI_1, atI_2, atI_3, bin_add, bin_sub, bin_mul, bin_div, bin_mod, bin_pow, bin_shl, bin_shr, bin_and, bin_addL, bin_addT, aug_add, aug_sub, aug_mul, cmp_lt, cmp_le, cmp_gt, cmp_ge, cmp_is, cmp_isnt, cmp_eq, cmp_ne, tst_e, wipe_nil, wipe_cons, asg_one, asg_many, asgs_nil, asgs_cons, seqV_t, seqV_s, seqV_l, chkV_t, chkV_l, chkV_s, chkV_a, callG_fn, isCal_fn, isCal_cls, isCalk_fn, callK_fn, frz_nil, puSp_run, bf_len, bf_abs, bf_int, bf_intb, bf_tupT, bf_tupL, bf_listL, bf_listT, bf_min2, bf_max2, bf_isi, slc_l, slc_t, slc_s, fld_i, setB, tabA_hit, isi_tt, isi_ti, isi_ii, isi_it, isi_ib, isi_bi, isi_bb, isi_ss, Cxt.nox, natI_0, natI_1, natI_2, natI_3, natI_4, natI_5, natI_6, natI_7, Bool.not_true, Bool.not_false, decide_true, decide_false, Bool.false_eq_true, if_true, if_false, celQ_set, idxV_set, Sto.set_set, ixN_30, ixN_31, ixN_32, enumV_n, enumV_c, zipV_n, zipV_c, objQ_set, isNon_n, isNon_t, isNon_i, setC_l, dropC_n, dropC_s, dropC_a, cellOf_0, cellOf_s, cellOf_n, frz_cons, frz1_s, frz1_n, sbst_t, sbst_l, sbst_i, sbst_b, sbst_non, sbst_str, sbst_a, sbsts_n, sbsts_c, bin_addLA_set, lenV_set, seqV_set, bf_tupA_set, bmP_app, bmV_app, bf_sum_set, bf_sum_l, asInts_n, asInts_c, Option.map_some, sz_0, sz_1, sz_2, sz_3, sz_4, sz_5, sz_6, sz_7, List.map_cons, List.map_nil, List.length_cons, List.length_nil, List.cons_append, List.nil_append, List.append_nil, List.drop_nil, List.set_cons_zero, List.set_cons_succ, List.replicate_succ, List.replicate_zero, Nat.reduceSub, Nat.reduceAdd, decide_eq_true_eq, true_and, and_true, cut1_h0, cut1_l1, cut2_h0, cut2_h1, cut2_l1, cut2_l2, cut3_h0, cut3_h1, cut3_h2, cut3_l1, cut3_l2, cut3_l3, cut4_l1, Int.reduceAdd, Int.reduceSub, Int.reduceMod, Int.reduceNeg, compL_cons, compL_nil, forL_cons, forL_nil, rng0, rng1n, rng2, rng3, r62_0, r62_1, r62_2, r62_3, szl_0, szl_1, szl_2, szl_3, szl_4, szl_5, szl_6, szl_7])
def bitB (m : Nat) (k : Nat) : Bool := decide (Builtin.bitAnd ((1 + (m : Int)) / 2 ^ (k : Int).toNat) 1 = 1)
def chosenOf (n m : Nat) : List Nat := (List.range n).filter (bitB m)
def csOf (n : Nat) : List (List Nat) := ((List.range (2 ^ n - 1)).map (chosenOf n)).filter fun c => decide (c.length ≤ 4)
theorem cs_a : ∀ n, n ∈ [1, 2, 3, 4, 5] → ∀ c ∈ csOf n, 1 ≤ c.length ∧ c.length ≤ 4 := by decide +kernel
theorem cs_b1 : ∀ b0 : Bool, [0].filter (fun k => [b0].getD k false) ≠ [] → [0].filter (fun k => [b0].getD k false) ∈ csOf 1 := by decide +kernel
theorem cs_b2 : ∀ b0 b1 : Bool, [0, 1].filter (fun k => [b0, b1].getD k false) ≠ [] → [0, 1].filter (fun k => [b0, b1].getD k false) ∈ csOf 2 := by decide +kernel
theorem cs_b3 : ∀ b0 b1 b2 : Bool, [0, 1, 2].filter (fun k => [b0, b1, b2].getD k false) ≠ [] → [0, 1, 2].filter (fun k => [b0, b1, b2].getD k false) ∈ csOf 3 := by decide +kernel
theorem cs_b4 : ∀ b0 b1 b2 b3 : Bool, [0, 1, 2, 3].filter (fun k => [b0, b1, b2, b3].getD k false) ≠ [] → [0, 1, 2, 3].filter (fun k => [b0, b1, b2, b3].getD k false) ∈ csOf 4 := by decide +kernel
theorem cs_b5 : ∀ b0 b1 b2 b3 b4 : Bool, [0, 1, 2, 3, 4].filter (fun k => [b0, b1, b2, b3, b4].getD k false) ≠ [] → ([0, 1, 2, 3, 4].filter (fun k => [b0, b1, b2, b3, b4].getD k false)).length ≤ 4 → [0, 1, 2, 3, 4].filter (fun k => [b0, b1, b2, b3, b4].getD k false) ∈ csOf 5 := by decide +kernel
theorem filter_congr' {p q : Nat → Bool} {l : List Nat} (h : ∀ k ∈ l, p k = q k) : l.filter p = l.filter q := List.filter_congr h
theorem cs_all {n : Nat} (h1 : 1 ≤ n) (h5 : n ≤ 5) (p : Nat → Bool) (hne : (List.range n).filter p ≠ []) (h4 : ((List.range n).filter p).length ≤ 4) : (List.range n).filter p ∈ csOf n := by
  match n, h1, h5 with
  | 1, _, _ =>
    have e : (List.range 1).filter p = [0].filter (fun k => [p 0].getD k false) := filter_congr' fun k hk => by
      have : k = 0 := by simpa using hk
      subst this
      rfl
    rw [e] at hne ⊢
    exact cs_b1 _ hne
  | 2, _, _ =>
    have e : (List.range 2).filter p = [0, 1].filter (fun k => [p 0, p 1].getD k false) := filter_congr' fun k hk => by
      have : k = 0 ∨ k = 1 := by
        have := List.mem_range.mp hk
        omega
      rcases this with rfl | rfl <;> rfl
    rw [e] at hne ⊢
    exact cs_b2 _ _ hne
  | 3, _, _ =>
    have e : (List.range 3).filter p = [0, 1, 2].filter (fun k => [p 0, p 1, p 2].getD k false) := filter_congr' fun k hk => by
      have : k = 0 ∨ k = 1 ∨ k = 2 := by
        have := List.mem_range.mp hk
        omega
      rcases this with rfl | rfl | rfl <;> rfl
    rw [e] at hne ⊢
    exact cs_b3 _ _ _ hne
  | 4, _, _ =>
    have e : (List.range 4).filter p = [0, 1, 2, 3].filter (fun k => [p 0, p 1, p 2, p 3].getD k false) := filter_congr' fun k hk => by
      have : k = 0 ∨ k = 1 ∨ k = 2 ∨ k = 3 := by
        have := List.mem_range.mp hk
        omega
      rcases this with rfl | rfl | rfl | rfl <;> rfl
    rw [e] at hne ⊢
    exact cs_b4 _ _ _ _ hne
  | 5, _, _ =>
    have e : (List.range 5).filter p = [0, 1, 2, 3, 4].filter (fun k => [p 0, p 1, p 2, p 3, p 4].getD k false) := filter_congr' fun k hk => by
      have : k = 0 ∨ k = 1 ∨ k = 2 ∨ k = 3 ∨ k = 4 := by
        have := List.mem_range.mp hk
        omega
      rcases this with rfl | rfl | rfl | rfl | rfl <;> rfl
    rw [e] at hne h4 ⊢
    exact cs_b5 _ _ _ _ _ hne h4
  | n + 6, _, h => omega
/-- the choices told: as many as there are, in any turn -/
structure Choices (n : Nat) (cs : List (List Nat)) : Prop where
  ok : ∀ c ∈ cs, 1 ≤ c.length ∧ c.length ≤ 4 ∧ ∃ p, c = (List.range n).filter p
  all : ∀ p : Nat → Bool, (List.range n).filter p ≠ [] → ((List.range n).filter p).length ≤ 4 → (List.range n).filter p ∈ cs
def sp_choices : ISp where
  run := fun vs S Q _ => ∃ n : Nat, vs = [.int n] ∧ 1 ≤ n ∧ n ≤ 5 ∧ ∀ cs, Choices n cs → Q (.lst (cs.map chV)) S
  mono := fun hQ _ ⟨n, h1, h2, h3, h4⟩ => ⟨n, h1, h2, h3, fun cs h => hQ _ _ (h4 cs h)⟩
theorem rngV_range : ∀ (n : Nat) (lo : Int), rngV lo n = (List.range n).map fun k : Nat => Val.int (lo + k)
  | 0, lo => rfl
  | n + 1, lo => by
    rw [List.range_succ_eq_map, List.map_cons, List.map_map]
    show Val.int lo :: rngV (lo + 1) n = _
    rw [rngV_range n]
    congr 1
    · simp
    · apply List.map_congr_left
      intro k _
      show Val.int _ = Val.int _
      congr 1
      show lo + 1 + (k : Int) = lo + ((k + 1 : Nat) : Int)
      omega
theorem compL_filterA {α : Type} {g : α → Val} {step : Val → Sto → (Option Val → Sto → Prop) → Prop} {chk : Sto → Prop} {S : Sto} {f : α → Val} {p : α → Bool} : ∀ {xs : List α} {acc : List Val} {R : List Val → Sto → Prop}, chk S → acc.length + xs.length ≤ sizeLine → (∀ x ∈ xs, ∀ k : Option Val → Sto → Prop, k (if p x = true then some (f x) else none) S → step (g x) S k) → R (acc ++ (xs.filter p).map f) S → compL step chk (xs.map g) acc S R
  | [], acc, R, hc, hl, hs, hR => ⟨hc, by simpa using hR⟩
  | v :: r, acc, R, hc, hl, hs, hR => by
    rw [List.length_cons] at hl
    rw [List.map_cons]
    refine ⟨hc, hs v List.mem_cons_self _ ?_⟩
    cases e : p v with
    | true =>
      rw [if_pos rfl]
      refine ⟨by omega, compL_filterA (f := f) (p := p) hc (by rw [List.length_append]; simp; omega) (fun u hu => hs u (List.mem_cons_of_mem _ hu)) ?_⟩
      rw [List.filter_cons_of_pos e, List.map_cons] at hR
      rw [List.append_assoc]
      exact hR
    | false =>
      rw [if_neg (by simp)]
      refine compL_filterA (f := f) (p := p) hc (by omega) (fun u hu => hs u (List.mem_cons_of_mem _ hu)) ?_
      rw [List.filter_cons_of_neg (by simp [e])] at hR
      exact hR
theorem lens_ch : ∀ cs : List (List Nat), lensV (cs.map chV) = some (cs.map List.length)
  | [] => rfl
  | c :: r => by
    rw [List.map_cons, List.map_cons]
    show (lensV (r.map chV)).map _ = _
    rw [lens_ch r]
    show some _ = some _
    rw [List.length_map]
theorem srt_perm (cs : List (List Nat)) : ∃ cs' : List (List Nat), (∀ c, c ∈ cs' ↔ c ∈ cs) ∧ srtV (cs.map chV) (cs.map List.length) = cs'.map chV := by
  have e : (cs.map chV).zip (cs.map List.length) = cs.map fun c => (chV c, c.length) := by
    rw [List.zip_map']
  have key : ∀ l : List (Val × Nat), (∀ x ∈ l, ∃ c ∈ cs, x = (chV c, c.length)) → ∃ cs' : List (List Nat), cs'.map (fun c => (chV c, c.length)) = l ∧ ∀ c ∈ cs', c ∈ cs := by
    intro l
    induction l with
    | nil => exact fun _ => ⟨[], rfl, fun _ h => by cases h⟩
    | cons x r ih =>
      intro h
      obtain ⟨c, hc, e⟩ := h x List.mem_cons_self
      obtain ⟨cs', e', h'⟩ := ih fun y hy => h y (List.mem_cons_of_mem _ hy)
      refine ⟨c :: cs', by rw [List.map_cons, e', e], fun d hd => ?_⟩
      rcases List.mem_cons.mp hd with rfl | hd
      · exact hc
      · exact h' d hd
  have perm := List.mergeSort_perm ((cs.map chV).zip (cs.map List.length)) fun a b => decide (a.2 ≤ b.2)
  obtain ⟨cs', e1, e2⟩ := key (((cs.map chV).zip (cs.map List.length)).mergeSort fun a b => decide (a.2 ≤ b.2)) fun x hx => by
    have hx := perm.mem_iff.mp hx
    rw [e] at hx
    obtain ⟨c, hc, ec⟩ := List.mem_map.mp hx
    exact ⟨c, hc, ec.symm⟩
  refine ⟨cs', fun c => ⟨e2 c, fun hc => ?_⟩, ?_⟩
  · have hm : (chV c, c.length) ∈ ((cs.map chV).zip (cs.map List.length)).mergeSort fun a b => decide (a.2 ≤ b.2) := perm.mem_iff.mpr (by rw [e]; exact List.mem_map.mpr ⟨c, hc, rfl⟩)
    rw [← e1] at hm
    obtain ⟨d, hd, ed⟩ := List.mem_map.mp hm
    have h1 := (Prod.mk.inj ed).1
    have inj : ∀ a b : List Nat, a.map (fun k : Nat => Val.int (k : Int)) = b.map (fun k : Nat => Val.int (k : Int)) → a = b := by
      intro a
      induction a with
      | nil =>
        intro b h
        cases b with
        | nil => rfl
        | cons _ _ => cases h
      | cons x a ih =>
        intro b h
        cases b with
        | nil => cases h
        | cons y b =>
          rw [List.map_cons, List.map_cons] at h
          injection h with h1 h2
          injection h1 with h1
          rw [ih b h2, show x = y by omega]
    unfold chV at h1
    injection h1 with h1
    rw [← inj _ _ h1]
    exact hd
  · unfold srtV
    rw [← e1, List.map_map]
    rfl
theorem hsp_choices {D : Nat → Li.G} {A : Addr → Str → Prop} (h106 : D 106 = .val (.int 4)) (vs : List Val) (S : Sto) (Q : VQ) (R : EQ) (hl : vs.length = 1) (h : sp_choices.run vs S Q R) : evD { D := D, A := A, er := R } Pt.b_choices 5 [] vs S Q := by
  obtain ⟨n, rfl, h1, h5, hQ⟩ := h
  have hp : 2 ^ n ≤ 32 := Nat.le_trans (Nat.pow_le_pow_right (by decide) h5) (by decide)
  have hp0 : 0 < 2 ^ n := Nat.two_pow_pos n
  unfold Pt.b_choices
  walk_at "li"
  rw [h106]
  walk_at "li"
  have e : ((1 : Int) * 2 ^ (n : Int).toNat) = ((2 ^ n : Nat) : Int) := by simp
  rw [e]
  refine ⟨⟨by omega, by omega, by decide⟩, by omega, ?_⟩
  rw [show (((2 ^ n : Nat) : Int) - 1).toNat = 2 ^ n - 1 by omega, rngV_range (2 ^ n - 1) 1]
  refine compL_mapA (xs := List.range (2 ^ n - 1)) (f := fun m => chV (chosenOf n m)) trivial (by rw [List.length_range, List.length_nil]; exact szn (by omega)) (fun m hm k hk => ?_) ?_
  · refine ⟨⟨by omega, by omega⟩, ?_⟩
    rw [show (n : Int).toNat = n by simp, rngV_range n 0]
    refine compL_filterA (xs := List.range n) (f := fun k : Nat => Val.int (k : Int)) (p := bitB m) trivial (by rw [List.length_range, List.length_nil]; exact szn (by omega)) (fun x hx k hk => ?_) ?_
    · walk_at "li"
      rw [Int.zero_add]
      refine ⟨by omega, ?_⟩
      by_cases hb : Builtin.bitAnd ((1 + (m : Int)) / 2 ^ (x : Int).toNat) 1 = 1
      · rw [if_pos hb]
        have : bitB m x = true := decide_eq_true hb
        rw [if_pos this] at hk
        exact hk
      · rw [if_neg hb]
        have : ¬ bitB m x = true := fun z => hb (of_decide_eq_true z)
        rw [if_neg this] at hk
        exact hk
    · exact hk
  · rw [List.nil_append]
    have key : compL (fun v S2 k => optQ (lenV S2 v) fun n => if (n : Int) ≤ 4 then k (some v) S2 else k none S2) (fun _ => True) (((List.range (2 ^ n - 1)).map (chosenOf n)).map chV) [] S fun vs S5 => optQ (lensV vs) fun ls => Q (Val.lst (srtV vs ls)) S5 := by
      refine compL_filterA (f := chV) (p := fun c => decide (c.length ≤ 4)) trivial (by rw [List.length_map, List.length_range, List.length_nil]; exact szn (by omega)) (fun c hc k hk => ?_) ?_
      · have el : lenV S (chV c) = some c.length := by
          show some (List.map (fun k : Nat => Val.int (k : Int)) c).length = _
          rw [List.length_map]
        rw [el, optQ_s]
        by_cases h4 : c.length ≤ 4
        · rw [if_pos (by omega)]
          rw [if_pos (decide_eq_true h4)] at hk
          exact hk
        · rw [if_neg (by omega)]
          rw [if_neg (by simpa using h4)] at hk
          exact hk
      · rw [List.nil_append, lens_ch, optQ_s]
        show Q (.lst (srtV ((csOf n).map chV) ((csOf n).map List.length))) S
        obtain ⟨cs', hmem, e2⟩ := srt_perm (csOf n)
        rw [e2]
        have hn : n ∈ [1, 2, 3, 4, 5] := by
          simp only [List.mem_cons, List.not_mem_nil, or_false]
          omega
        refine hQ cs' ⟨fun c hc => ?_, fun p h1' h4 => (hmem _).mpr (cs_all h1 h5 p h1' h4)⟩
        have hc := (hmem c).mp hc
        obtain ⟨g1, g2⟩ := cs_a n hn c hc
        refine ⟨g1, g2, ?_⟩
        unfold csOf at hc
        obtain ⟨hc, _⟩ := List.mem_filter.mp hc
        obtain ⟨m, _, em⟩ := List.mem_map.mp hc
        exact ⟨bitB m, em.symm⟩
    rw [List.map_map] at key
    exact key
end Li
set_option Elab.async false
set_option linter.all false
set_option maxHeartbeats 2000000
/-! Mt5: what the program's feet say of the nearest that lights make. -/
namespace Li
open Mt
def eR (e : E3) : V3 := ((e.1 : Rat), (e.2.1 : Rat), (e.2.2 : Rat))
theorem eR_pos {e : E3} (h : Eye3 e) : Pos (eR e) := by
  obtain ⟨⟨h1, _⟩, ⟨h2, _⟩, ⟨h3, _⟩⟩ := h
  exact ⟨Rat.intCast_pos.mpr (by omega), Rat.intCast_pos.mpr (by omega), Rat.intCast_pos.mpr (by omega)⟩
def zR (z : Z3) : V3 := ((z.1 : Rat), (z.2.1 : Rat), (z.2.2 : Rat))
theorem ip_cast (e : E3) (a b : Z3) : ((ip e a b : Int) : Rat) = dot (eR e) (zR a) (zR b) := by
  unfold ip dot eR zR
  simp only [List.sum_cons, List.sum_nil, Rat.intCast_add, Rat.intCast_mul]
  grind
/-- tops by number -/
def getT : List Nat → List Int → Nat → Int
  | k :: ks, t :: ts, q => if k = q then t else getT ks ts q
  | _, _, _ => 0
theorem getT_out : ∀ {ks : List Nat} {ts : List Int} {q : Nat}, q ∉ ks → getT ks ts q = 0
  | [], _, _, _ => rfl
  | k :: ks, [], q, _ => rfl
  | k :: ks, t :: ts, q, h => by
    unfold getT
    rw [if_neg fun z : k = q => h (by rw [z]; exact List.mem_cons_self), getT_out fun z => h (List.mem_cons_of_mem _ z)]
theorem rsum_append : ∀ (a b : List Rat), rsum (a ++ b) = rsum a + rsum b
  | [], b => by
    show rsum b = 0 + rsum b
    grind
  | x :: a, b => by
    show x + rsum (a ++ b) = x + rsum a + rsum b
    rw [rsum_append a b]
    grind
theorem rsum_range (f : Nat → Rat) : ∀ n, rsum ((List.range n).map f) = sm n f
  | 0 => rfl
  | n + 1 => by
    rw [List.range_succ, List.map_append, rsum_append, rsum_range f n]
    show sm n f + (f n + 0) = sm n f + f n
    grind
theorem rsum_ch {n : Nat} {p : Nat → Bool} {f : Nat → Rat} : ∀ {n : Nat}, (∀ k, k < n → p k = false → f k = 0) → rsum (((List.range n).filter p).map f) = sm n f
  | 0, _ => rfl
  | n + 1, h => by
    rw [List.range_succ, List.filter_append, List.map_append, rsum_append, rsum_ch (n := n) fun k hk => h k (by omega)]
    show _ = sm n f + f n
    congr 1
    cases e : p n with
    | true =>
      rw [List.filter_cons_of_pos e]
      show f n + 0 = f n
      grind
    | false =>
      rw [List.filter_cons_of_neg (by simp [e]), h n (by omega) e]
      rfl
/-- numbers by their tops, together -/
theorem zip_cast {g : Nat → Int} : ∀ {ch : List Nat} {tops : List Int}, ((((tops.zip ch).map fun p => p.1 * g p.2).sum : Int) : Rat) = rsum ((ch.zip tops).map fun q => (q.2 : Rat) * (g q.1 : Rat))
  | [], tops => by
    rw [List.zip_nil_right, List.zip_nil_left]
    rfl
  | k :: ch, [] => rfl
  | k :: ch, t :: tops => by
    rw [List.zip_cons_cons, List.zip_cons_cons, List.map_cons, List.map_cons, List.sum_cons, Rat.intCast_add, zip_cast, Rat.intCast_mul]
    rfl
theorem sm_getT {n : Nat} {f : Nat → Rat} : ∀ {ch : List Nat} {tops : List Int}, ch.Nodup → (∀ k ∈ ch, k < n) → sm n (fun k => (getT ch tops k : Rat) * f k) = rsum ((ch.zip tops).map fun q => (q.2 : Rat) * f q.1)
  | [], tops, _, _ => by
    rw [List.zip_nil_left]
    refine sm_zero fun k _ => ?_
    show ((0 : Int) : Rat) * f k = 0
    grind
  | j :: ch, [], _, _ => by
    refine sm_zero fun k _ => ?_
    show ((0 : Int) : Rat) * f k = 0
    grind
  | j :: ch, t :: tops, nd, hk => by
    obtain ⟨nd1, nd2⟩ := List.nodup_cons.mp nd
    rw [List.zip_cons_cons, List.map_cons]
    show _ = (t : Rat) * f j + rsum _
    rw [← sm_getT (n := n) (f := f) nd2 fun k h => hk k (List.mem_cons_of_mem _ h), ← sm_single (n := n) (j := j) ((t : Rat) * f j) (hk j List.mem_cons_self), ← sm_add]
    refine sm_congr fun k _ => ?_
    by_cases e : k = j
    · subst e
      rw [if_pos rfl, getT_out nd1]
      unfold getT
      rw [if_pos rfl]
      grind
    · rw [if_neg e]
      have : getT (j :: ch) (t :: tops) k = getT ch tops k := by
        conv => lhs; unfold getT
        rw [if_neg fun z => e z.symm]
      rw [this]
      grind
theorem foot_sum {G : Nat → Nat → Int} {ch : List Nat} (h1 : 1 ≤ ch.length) (h4 : ch.length ≤ 4) : (footF G ch).1.sum = (footF G ch).2 ∧ (footF G ch).1.length = ch.length := by
  match ch, h1, h4 with
  | [_], _, _ => exact ⟨rfl, rfl⟩
  | [_, _], _, _ =>
    refine ⟨?_, rfl⟩
    simp only [footF, List.sum_cons, List.sum_nil]
    omega
  | [_, _, _], _, _ =>
    refine ⟨?_, rfl⟩
    simp only [footF, List.sum_cons, List.sum_nil]
    omega
  | [_, _, _, _], _, _ =>
    refine ⟨?_, rfl⟩
    simp only [footF, List.sum_cons, List.sum_nil]
    omega
theorem foot_uniq {e : V3} {n : Nat} {v : Nat → V3} {p : Nat → Bool} {x x' : Nat → Rat} (pos : Pos e) (hi : AffInd n v p) (F : Foot e n v p x) (F' : Foot e n v p x') : ∀ k, k < n → x k = x' k := by
  have a := dot_of F F'.supp F'.one
  have b := dot_of F' F.supp F.one
  have z : dot e (sub (pt n v x) (pt n v x')) (sub (pt n v x) (pt n v x')) = 0 := by
    rw [dot_sub, dot_comm e (pt n v x') (pt n v x), b]
    rw [dot_comm, b] at a
    grind
  have z2 := dot_zero pos z
  have z3 : ∀ k, k < n → x k + (-1) * x' k = 0 := by
    refine hi (fun k => x k + (-1) * x' k) (fun k hk hp => by rw [F.supp k hk hp, F'.supp k hk hp]; grind) (by rw [sm_add, sm_mul, F.one, F'.one]; grind) ?_
    have key : ∀ g : Nat → Rat, (sm n fun k => (x k + (-1) * x' k) * g k) = (sm n fun k => x k * g k) - sm n fun k => x' k * g k := fun g => by
      have : (sm n fun k => (x k + (-1) * x' k) * g k) = sm n fun k => x k * g k + (-1) * (x' k * g k) := sm_congr fun k _ => by grind
      rw [this, sm_add, sm_mul]
      grind
    rw [← z2]
    unfold pt sub
    rw [key, key, key]
  intro k hk
  have := z3 k hk
  grind
/-- there is a choice whose foot is one -/
theorem exists_foot {e : V3} {n : Nat} {v : Nat → V3} {G : Nat → Nat → Int} (pos : Pos e) (hG : ∀ i j, i < n → j < n → (G i j : Rat) = dot e (v i) (v j)) (h0 : 1 ≤ n) :
    ∃ p : Nat → Bool, (List.range n).filter p ≠ [] ∧ ((List.range n).filter p).length ≤ 4 ∧ isFootB n G ((List.range n).filter p) (footF G ((List.range n).filter p)).1 (footF G ((List.range n).filter p)).2 = true := by
  obtain ⟨p, x, hi, h4, F, hx, hk⟩ := exists_kkt pos hG h0
  have hne : (List.range n).filter p ≠ [] := fun z => by
    have h1 := F.one
    rw [sm_zero fun k hk => F.supp k hk (by
      cases q : p k with
      | false => rfl
      | true =>
        have : k ∈ (List.range n).filter p := List.mem_filter.mpr ⟨List.mem_range.mpr hk, q⟩
        rw [z] at this
        cases this)] at h1
    exact absurd h1 (by decide)
  refine ⟨p, hne, h4, ?_⟩
  have hlen : 1 ≤ ((List.range n).filter p).length := by
    rcases Nat.eq_zero_or_pos ((List.range n).filter p).length with z | z
    · exact absurd (List.eq_nil_of_length_eq_zero z) hne
    · exact z
  obtain ⟨x', F', hb, hl, ht⟩ := foot_ex (G := G) pos hG _ rfl hlen h4 hi
  have ex := foot_uniq pos hi F F'
  generalize hch : (List.range n).filter p = ch at *
  generalize htp : (footF G ch).1 = tops at *
  generalize hbb : (footF G ch).2 = b at *
  have hbR : (0 : Rat) < (b : Rat) := Rat.intCast_pos.mpr hb
  have hin : ∀ k ∈ ch, k < n ∧ p k = true := fun k hk => (mem_ch hch).mp hk
  have ht' : ∀ q ∈ ch.zip tops, (q.2 : Rat) = (b : Rat) * x q.1 := fun q hq => by rw [ht q hq, ex q.1 (hin q.1 (List.of_mem_zip hq).1).1]
  have hsum : ∀ f : Nat → Rat, rsum ((ch.zip tops).map fun q => (q.2 : Rat) * f q.1) = (b : Rat) * sm n fun k => x k * f k := fun f => by
    rw [← sm_mul, ← rsum_ch (n := n) (p := p) (f := fun k => (b : Rat) * (x k * f k)) (fun k hk hp => by rw [F.supp k hk hp]; grind), hch]
    have e1 : (ch.zip tops).map (fun q => (q.2 : Rat) * f q.1) = (ch.zip tops).map (fun q => (b : Rat) * (x q.1 * f q.1)) := List.map_congr_left fun q hq => by
      rw [ht' q hq]
      grind
    rw [e1]
    have e2 : (ch.zip tops).map (fun q => (b : Rat) * (x q.1 * f q.1)) = ((ch.zip tops).map Prod.fst).map fun k => (b : Rat) * (x k * f k) := by
      rw [List.map_map]
      rfl
    rw [e2, List.map_fst_zip (by omega)]
  have pull : ∀ i, i < n → ((pullF G ch tops i : Int) : Rat) = (b : Rat) * dot e (v i) (pt n v x) := fun i hi' => by
    unfold pullF
    rw [zip_cast, hsum fun k => (G i k : Rat), dot_comm, dot_pt]
    congr 1
    refine sm_congr fun k hk => ?_
    rw [hG i k hi' hk, dot_comm]
  have here : ((hereF G ch tops : Int) : Rat) = (b : Rat) * ((b : Rat) * dot e (pt n v x) (pt n v x)) := by
    unfold hereF
    rw [zip_cast, hsum fun k => ((pullF G ch tops k : Int) : Rat)]
    congr 1
    rw [dot_pt e n v x (pt n v x), ← sm_mul]
    refine sm_congr fun k hk => ?_
    rw [pull k hk]
    grind
  unfold isFootB
  rw [decide_eq_false (by omega : ¬ b = 0)]
  have q1 : tops.all (fun t => decide (0 ≤ t)) = true := List.all_eq_true.mpr fun t htm => by
    obtain ⟨i, hi', hti⟩ := List.mem_iff_getElem.mp htm
    have hic : i < ch.length := by omega
    have hz : (ch[i], tops[i]) ∈ ch.zip tops := List.mem_iff_getElem.mpr ⟨i, by rw [List.length_zip]; omega, by rw [List.getElem_zip]⟩
    have h3 := ht' _ hz
    have h4 := Rat.mul_nonneg (Rat.le_of_lt hbR) (hx ch[i] (hin _ (List.getElem_mem hic)).1)
    simp only at h3
    rw [← h3, hti] at h4
    exact decide_eq_true (Rat.intCast_nonneg.mp h4)
  have q2 : ((List.range n).all fun i => decide (hereF G ch tops ≤ b * pullF G ch tops i)) = true := List.all_eq_true.mpr fun i hi' => by
    have hi' := List.mem_range.mp hi'
    refine decide_eq_true (Rat.intCast_le_intCast.mp ?_)
    rw [Rat.intCast_mul, here, pull i hi']
    exact Rat.mul_le_mul_of_nonneg_left (Rat.mul_le_mul_of_nonneg_left (hk i hi') (Rat.le_of_lt hbR)) (Rat.le_of_lt hbR)
  rw [q1, q2]
  rfl
/-- the nearest to q that rows make, by parts -/
structure Near (e : E3) (rows : List T3) (q : T3) (parts : List Rat) (near : T3) : Prop where
  len : parts.length = rows.length
  nn : ∀ p ∈ parts, 0 ≤ p
  one : rsum parts = 1
  few : (parts.filter fun p => decide (0 < p)).length ≤ 4
  made : near = madeF rows parts
  kkt : ∀ l ∈ rows, dot (eR e) (gap q near) (gap l near) ≤ 0
theorem range_get (rows : List T3) : rows = (List.range rows.length).map fun i => rows.getD i (0, 0, 0) := by
  refine List.ext_getElem (by rw [List.length_map, List.length_range]) fun i h1 h2 => ?_
  rw [List.getElem_map, List.getElem_range, List.getD_eq_getElem?_getD, List.getElem?_eq_getElem h1]
  rfl
theorem made_sm {n : Nat} (l : Nat → T3) (x : Nat → Rat) (k : Nat) : madeK ((List.range n).map l) ((List.range n).map x) k = sm n fun i => x i * comp3 k (l i) := by
  unfold madeK
  rw [List.zip_map', List.map_map]
  exact rsum_range (fun i => x i * comp3 k (l i)) n
theorem near_of {e : E3} (he : Eye3 e) {rows : List T3} {q : T3} {B : Nat} (hB : 0 < B) (hd : ∀ t ∈ q :: rows, ∀ k, (comp3 k t).den ∣ B) {ch : List Nat} {p : Nat → Bool} (hch : (List.range rows.length).filter p = ch) (h1 : 1 ≤ ch.length) (h4 : ch.length ≤ 4) {G : Nat → Nat → Int}
    (hG : ∀ i j, i < rows.length → j < rows.length → G i j = ip e (diffOf B q (rows.getD i (0, 0, 0))) (diffOf B q (rows.getD j (0, 0, 0)))) (hf : isFootB rows.length G ch (footF G ch).1 (footF G ch).2 = true) :
    0 < (footF G ch).2 ∧ (∀ k, 0 ≤ getT ch (footF G ch).1 k ∧ getT ch (footF G ch).1 k ≤ (footF G ch).2) ∧ Near e rows q ((List.range rows.length).map fun k => Rat.divInt (getT ch (footF G ch).1 k) (footF G ch).2) (madeF rows ((List.range rows.length).map fun k => Rat.divInt (getT ch (footF G ch).1 k) (footF G ch).2)) := by
  obtain ⟨fs, fl⟩ := foot_sum (G := G) h1 h4
  have nd := nodup_ch hch
  have hin : ∀ k ∈ ch, k < rows.length ∧ p k = true := fun k hk => (mem_ch hch).mp hk
  generalize (footF G ch).1 = tops at *
  generalize (footF G ch).2 = b at *
  unfold isFootB at hf
  obtain ⟨hf, hk⟩ := Bool.and_eq_true_iff.mp hf
  obtain ⟨hb0, hnn⟩ := Bool.and_eq_true_iff.mp hf
  have hb0 : b ≠ 0 := by simpa using hb0
  have hnn : ∀ t ∈ tops, 0 ≤ t := fun t ht => of_decide_eq_true (List.all_eq_true.mp hnn t ht)
  have sum_nn : ∀ ts : List Int, (∀ t ∈ ts, 0 ≤ t) → 0 ≤ ts.sum ∧ ∀ t ∈ ts, t ≤ ts.sum := by
    intro ts
    induction ts with
    | nil => exact fun _ => ⟨by simp, fun t ht => by cases ht⟩
    | cons a r ih =>
      intro h
      obtain ⟨i1, i2⟩ := ih fun t ht => h t (List.mem_cons_of_mem _ ht)
      have ha := h a List.mem_cons_self
      rw [List.sum_cons]
      refine ⟨by omega, fun t ht => ?_⟩
      rcases List.mem_cons.mp ht with rfl | ht
      · omega
      · have := i2 t ht
        omega
  obtain ⟨s0, s1⟩ := sum_nn tops hnn
  rw [fs] at s0 s1
  have hb : 0 < b := by omega
  have hget : ∀ (ks : List Nat) (ts : List Int), (∀ t ∈ ts, 0 ≤ t ∧ t ≤ b) → ∀ k, 0 ≤ getT ks ts k ∧ getT ks ts k ≤ b := by
    intro ks
    induction ks with
    | nil => exact fun ts _ k => ⟨Int.le_refl _, by unfold getT; omega⟩
    | cons k0 ks ih =>
      intro ts h k
      cases ts with
      | nil => exact ⟨Int.le_refl _, by unfold getT; omega⟩
      | cons t ts =>
        unfold getT
        split
        · exact h t List.mem_cons_self
        · exact ih ts (fun t ht => h t (List.mem_cons_of_mem _ ht)) k
  have hgt := hget ch tops fun t ht => ⟨hnn t ht, s1 t ht⟩
  have hbR : (0 : Rat) < (b : Rat) := Rat.intCast_pos.mpr hb
  have hbne : (b : Rat) ≠ 0 := Rat.ne_of_gt hbR
  -- the parts
  have hx : ∀ k, (b : Rat) * Rat.divInt (getT ch tops k) b = (getT ch tops k : Rat) := fun k => by
    rw [Rat.divInt_eq_div]
    exact div_mul hbne
  have x0 : ∀ k, 0 ≤ Rat.divInt (getT ch tops k) b := fun k => Rat.divInt_nonneg (hgt k).1 (by omega)
  generalize hxx : (fun k => Rat.divInt (getT ch tops k) b) = x at *
  have hx : ∀ k, (b : Rat) * x k = (getT ch tops k : Rat) := fun k => by rw [← hxx]; exact hx k
  have x0 : ∀ k, 0 ≤ x k := fun k => by rw [← hxx]; exact x0 k
  have hsum : ∀ f : Nat → Rat, rsum ((ch.zip tops).map fun q => (q.2 : Rat) * f q.1) = (b : Rat) * sm rows.length fun k => x k * f k := fun f => by
    rw [← sm_getT nd fun k hk => (hin k hk).1, ← sm_mul]
    refine sm_congr fun k _ => ?_
    rw [← hx k]
    grind
  have one : sm rows.length x = 1 := by
    have h := hsum fun _ => 1
    have e1 : ((tops.sum : Int) : Rat) = rsum ((ch.zip tops).map fun q => (q.2 : Rat) * 1) := by
      have e2 := zip_cast (g := fun _ => 1) (ch := ch) (tops := tops)
      have e3 : (tops.zip ch).map (fun p => p.1 * (1 : Int)) = tops := by
        have : (fun p : Int × Nat => p.1 * (1 : Int)) = Prod.fst := by
          funext p
          exact Int.mul_one _
        rw [this, List.map_fst_zip (by omega)]
      rw [e3] at e2
      rw [e2]
      rfl
    rw [← e1, fs] at h
    have h2 : (b : Rat) * (sm rows.length (fun k => x k * 1) - 1) = 0 := by grind
    have h3 := (Rat.mul_eq_zero.mp h2).resolve_left hbne
    have h4 : sm rows.length (fun k => x k * 1) = sm rows.length x := sm_congr fun k _ => by grind
    rw [h4] at h3
    grind
  refine ⟨hb, hgt, ⟨by rw [List.length_map, List.length_range], fun p hp => ?_, by rw [rsum_range, one], ?_, rfl, ?_⟩⟩
  · obtain ⟨k, _, rfl⟩ := List.mem_map.mp hp
    exact x0 k
  · rw [List.filter_map, List.length_map]
    refine Nat.le_trans ?_ h4
    rw [← hch]
    have sub : ∀ l : List Nat, (∀ k ∈ l, k < rows.length) → (l.filter ((fun p => decide (0 < p)) ∘ x)).length ≤ (l.filter p).length := by
      intro l
      induction l with
      | nil => exact fun _ => Nat.le_refl _
      | cons a r ih =>
        intro h
        have i1 := ih fun k hk => h k (List.mem_cons_of_mem _ hk)
        cases hp : p a with
        | true =>
          rw [List.filter_cons_of_pos (p := p) hp, List.length_cons]
          cases hq : ((fun p => decide (0 < p)) ∘ x) a with
          | true =>
            rw [List.filter_cons_of_pos hq, List.length_cons]
            omega
          | false =>
            rw [List.filter_cons_of_neg (by rw [hq]; decide)]
            omega
        | false =>
          have : a ∉ ch := fun z => by
            have := (hin a z).2
            rw [hp] at this
            cases this
          have h0 := hx a
          rw [getT_out this] at h0
          have h1 := (Rat.mul_eq_zero.mp h0).resolve_left hbne
          have hq : ¬ ((fun p => decide (0 < p)) ∘ x) a = true := by
            show ¬ decide (0 < x a) = true
            rw [h1]
            decide
          rw [List.filter_cons_of_neg hq, List.filter_cons_of_neg (by simp [hp])]
          exact i1
    exact sub _ fun k hk => List.mem_range.mp hk
  · -- nothing is nearer
    intro l hl
    obtain ⟨i, hi, rfl⟩ := List.mem_iff_getElem.mp hl
    let L : Nat → T3 := fun i => rows.getD i (0, 0, 0)
    have hli : rows[i] = L i := by
      show rows[i] = rows.getD i (0, 0, 0)
      rw [List.getD_eq_getElem?_getD, List.getElem?_eq_getElem (by omega)]
      rfl
    have hrows := range_get rows
    rw [hli]
    clear hl hli
    generalize hn : rows.length = n at *
    have hrows : rows = (List.range n).map L := hrows
    let v : Nat → V3 := fun i => zR (diffOf B q (L i))
    have dq := hd q List.mem_cons_self
    have dl : ∀ i, i < n → ∀ k, (comp3 k (L i)).den ∣ B := fun i hi' => hd _ (List.mem_cons_of_mem _ (by
      show rows.getD i (0, 0, 0) ∈ rows
      rw [List.getD_eq_getElem?_getD, List.getElem?_eq_getElem (by omega)]
      exact List.getElem_mem _))
    have hv : ∀ i, i < n → v i = ((B : Rat) * ((L i).1 - q.1), (B : Rat) * ((L i).2.1 - q.2.1), (B : Rat) * ((L i).2.2 - q.2.2)) := fun i hi' => by
      show zR (diffOf B q (L i)) = _
      unfold zR diffOf
      have w1 := whole_val (x := (L i).1) (dl i hi' 0)
      have w2 := whole_val (x := (L i).2.1) (dl i hi' 1)
      have w3 := whole_val (x := (L i).2.2) (dl i hi' 2)
      have u1 := whole_val (x := q.1) (dq 0)
      have u2 := whole_val (x := q.2.1) (dq 1)
      have u3 := whole_val (x := q.2.2) (dq 2)
      simp only [Rat.intCast_sub]
      rw [w1, w2, w3, u1, u2, u3]
      refine Prod.ext ?_ (Prod.ext ?_ ?_) <;> simp only [] <;> grind
    have hGc : ∀ i j, i < n → j < n → (G i j : Rat) = dot (eR e) (v i) (v j) := fun i j h1 h2 => by
      rw [hG i j h1 h2, ip_cast]
    have pull : ∀ i, i < n → ((pullF G ch tops i : Int) : Rat) = (b : Rat) * dot (eR e) (v i) (pt n v x) := fun i hi' => by
      unfold pullF
      rw [zip_cast, hsum fun k => (G i k : Rat), dot_comm, dot_pt]
      congr 1
      refine sm_congr fun k hk => ?_
      rw [hGc i k hi' hk, dot_comm]
    have here : ((hereF G ch tops : Int) : Rat) = (b : Rat) * ((b : Rat) * dot (eR e) (pt n v x) (pt n v x)) := by
      unfold hereF
      rw [zip_cast, hsum fun k => ((pullF G ch tops k : Int) : Rat)]
      congr 1
      rw [dot_pt (eR e) n v x (pt n v x), ← sm_mul]
      refine sm_congr fun k hk => ?_
      rw [pull k hk]
      grind
    have k1 := Rat.intCast_le_intCast.mpr (of_decide_eq_true (List.all_eq_true.mp hk i (List.mem_range.mpr hi)))
    rw [Rat.intCast_mul, here, pull i hi] at k1
    have k2 := Rat.le_of_mul_le_mul_left (Rat.le_of_mul_le_mul_left k1 hbR) hbR
    -- the point itself
    have hm : madeF rows ((List.range n).map x) = (sm n fun i => x i * (L i).1, sm n fun i => x i * (L i).2.1, sm n fun i => x i * (L i).2.2) := by
      have h := congrArg (fun r => madeF r ((List.range n).map x)) hrows
      refine h.trans ?_
      show madeF ((List.range n).map L) ((List.range n).map x) = _
      unfold madeF
      rw [made_sm, made_sm, made_sm]
      rfl
    have hpt : ∀ (g : Nat → Rat) (c : Rat), (sm n fun k => x k * ((B : Rat) * (g k - c))) = (B : Rat) * ((sm n fun k => x k * g k) - c) := fun g c => by
      have : (sm n fun k => x k * ((B : Rat) * (g k - c))) = sm n fun k => (B : Rat) * (x k * g k) + (-(B : Rat) * c) * x k := sm_congr fun k _ => by grind
      rw [this, sm_add, sm_mul, sm_mul, one]
      grind
    have hw : pt n v x = ((B : Rat) * ((madeF rows ((List.range n).map x)).1 - q.1), (B : Rat) * ((madeF rows ((List.range n).map x)).2.1 - q.2.1), (B : Rat) * ((madeF rows ((List.range n).map x)).2.2 - q.2.2)) := by
      rw [hm]
      unfold pt
      refine Prod.ext ?_ (Prod.ext ?_ ?_) <;> simp only []
      · rw [← hpt]
        exact sm_congr fun k hk => by rw [hv k hk]
      · rw [← hpt]
        exact sm_congr fun k hk => by rw [hv k hk]
      · rw [← hpt]
        exact sm_congr fun k hk => by rw [hv k hk]
    rw [hw, hv i hi] at k2
    generalize madeF rows ((List.range n).map x) = m at *
    generalize L i = l at *
    have hBR : (0 : Rat) < (B : Rat) := Rat.natCast_pos.mpr hB
    have hBB : (0 : Rat) < (B : Rat) * (B : Rat) := Rat.mul_pos hBR hBR
    unfold dot at k2
    simp only at k2
    have k3 : (B : Rat) * (B : Rat) * dot (eR e) (gap q m) (gap l m) ≤ (B : Rat) * (B : Rat) * 0 := by
      unfold dot gap
      simp only
      grind
    exact Rat.le_of_mul_le_mul_left k3 hBB
end Li
set_option Elab.async false
set_option linter.all false
set_option maxRecDepth 100000
set_option maxHeartbeats 2000000
/-! Lg7: the nearest that lights make, the line, make. -/
namespace Li
open PySem
local macro_rules | `(tactic| walk_at "li") => `(tactic| simp only [evD, evSs, evS, evE, evEs, evI, evO, evIt, slotQ_0, slotQ_s, cloQ_0, cloQ_s, capQ_nil, capQ_cons, intQ_i, adrQ_a, lstQ_l, tupQ_t, dctQ_d, optQ_s, gvalQ_v, brV_s, asL_l, truV_b, truV_n, truV_i, lenV_t, lenV_s, lenV_l, idxV_t, idxV_s, idxV_l, atI_0, atI_1, atI_2, atI_3, bin_add, bin_sub, bin_mul, bin_div, bin_mod, bin_pow, bin_shl, bin_shr, bin_and, bin_addL, bin_addT, aug_add, aug_sub, aug_mul, cmp_lt, cmp_le, cmp_gt, cmp_ge, cmp_is, cmp_isnt, cmp_eq, cmp_ne, tst_e, wipe_nil, wipe_cons, asg_one, asg_many, asgs_nil, asgs_cons, seqV_t, seqV_s, seqV_l, chkV_t, chkV_l, chkV_s, chkV_a, callG_fn, isCal_fn, isCal_cls, isCalk_fn, callK_fn, frz_nil, puSp_run, bf_len, bf_abs, bf_int, bf_intb, bf_tupT, bf_tupL, bf_listL, bf_listT, bf_min2, bf_max2, bf_isi, slc_l, slc_t, slc_s, fld_i, setB, tabA_hit, isi_tt, isi_ti, isi_ii, isi_it, isi_ib, isi_bi, isi_bb, isi_ss, Cxt.nox, natI_0, natI_1, natI_2, natI_3, natI_4, natI_5, natI_6, natI_7, Bool.not_true, Bool.not_false, decide_true, decide_false, Bool.false_eq_true, if_true, if_false, celQ_set, idxV_set, Sto.set_set, ixN_30, ixN_31, ixN_32, enumV_n, enumV_c, zipV_n, zipV_c, objQ_set, isNon_n, isNon_t, isNon_i, setC_l, dropC_n, dropC_s, dropC_a, cellOf_0, cellOf_s, cellOf_n, frz_cons, frz1_s, frz1_n, sbst_t, sbst_l, sbst_i, sbst_b, sbst_non, sbst_str, sbst_a, sbsts_n, sbsts_c, bin_addLA_set, lenV_set, seqV_set, bf_tupA_set, bmP_app, bmV_app, bf_sum_set, bf_sum_l, asInts_n, asInts_c, Option.map_some, sz_0, sz_1, sz_2, sz_3, sz_4, sz_5, sz_6, sz_7, List.map_cons, List.map_nil, List.length_cons, List.length_nil, List.cons_append, List.nil_append, List.append_nil, List.drop_nil, List.set_cons_zero, List.set_cons_succ, List.replicate_succ, List.replicate_zero, Nat.reduceSub, Nat.reduceAdd, decide_eq_true_eq, true_and, and_true])
local macro_rules | `(tactic| walk_at "lc") => `(tactic| simp only [evD, evSs, evS, evE, evEs, evI, evO, evIt, slotQ_0, slotQ_s, cloQ_0, cloQ_s, capQ_nil, capQ_cons, intQ_i, adrQ_a, lstQ_l, tupQ_t, dctQ_d, optQ_s, gvalQ_v, brV_s, asL_l, truV_b, truV_n, truV_i, lenV_t, lenV_s, lenV_l, idxV_t, idxV_s, idxV_l, atI_0, atI_1, atI_2, atI_3, bin_add, bin_sub, bin_mul, bin_div, bin_mod, bin_pow, bin_shl, bin_shr, bin_and, bin_addL, bin_addT, aug_add, aug_sub, aug_mul, cmp_lt, cmp_le, cmp_gt, cmp_ge, cmp_is, cmp_isnt, cmp_eq, cmp_ne, tst_e, wipe_nil, wipe_cons, asg_one, asg_many, asgs_nil, asgs_cons, seqV_t, seqV_s, seqV_l, chkV_t, chkV_l, chkV_s, chkV_a, callG_fn, isCal_fn, isCal_cls, isCalk_fn, callK_fn, frz_nil, puSp_run, bf_len, bf_abs, bf_int, bf_intb, bf_tupT, bf_tupL, bf_listL, bf_listT, bf_min2, bf_max2, bf_isi, slc_l, slc_t, slc_s, fld_i, setB, tabA_hit, isi_tt, isi_ti, isi_ii, isi_it, isi_ib, isi_bi, isi_bb, isi_ss, Cxt.nox, natI_0, natI_1, natI_2, natI_3, natI_4, natI_5, natI_6, natI_7, Bool.not_true, Bool.not_false, decide_true, decide_false, Bool.false_eq_true, if_true, if_false, celQ_set, idxV_set, Sto.set_set, ixN_30, ixN_31, ixN_32, enumV_n, enumV_c, zipV_n, zipV_c, objQ_set, isNon_n, isNon_t, isNon_i, setC_l, dropC_n, dropC_s, dropC_a, cellOf_0, cellOf_s, cellOf_n, frz_cons, frz1_s, frz1_n, sbst_t, sbst_l, sbst_i, sbst_b, sbst_non, sbst_str, sbst_a, sbsts_n, sbsts_c, bin_addLA_set, lenV_set, seqV_set, bf_tupA_set, bmP_app, bmV_app, bf_sum_set, bf_sum_l, asInts_n, asInts_c, Option.map_some, sz_0, sz_1, sz_2, sz_3, sz_4, sz_5, sz_6, sz_7, List.map_cons, List.map_nil, List.length_cons, List.length_nil, List.cons_append, List.nil_append, List.append_nil, List.drop_nil, List.set_cons_zero, List.set_cons_succ, List.replicate_succ, List.replicate_zero, Nat.reduceSub, Nat.reduceAdd, decide_eq_true_eq, true_and, and_true, cut1_h0, cut1_l1, cut2_h0, cut2_h1, cut2_l1, cut2_l2, cut3_h0, cut3_h1, cut3_h2, cut3_l1, cut3_l2, cut3_l3, cut4_l1, Int.reduceAdd, Int.reduceSub, Int.reduceMod, Int.reduceNeg, compL_cons, compL_nil, forL_cons, forL_nil, rng0, rng1n, rng2, rng3, r62_0, r62_1, r62_2, r62_3, szl_0, szl_1, szl_2, szl_3, szl_4, szl_5, szl_6, szl_7])
/-! ### sizes of feet -/
theorem gram_b {B d : Nat} {e : E3} {q a b : T3} (he : Eye3 e) (hB : B2 B d) (ha : In3 a ∧ ∀ k, (comp3 k a).den ∣ B) (hb : In3 b ∧ ∀ k, (comp3 k b).den ∣ B) (hq : In3 q ∧ ∀ k, (comp3 k q).den ∣ B) : B2 (ip e (diffOf B q a) (diffOf B q b)).natAbs (7 + d + d + 2) := by
  have t : ∀ (i : Int) (x y u w : Rat), Eye1 i → In1 x → In1 y → In1 u → In1 w → x.den ∣ B → y.den ∣ B → u.den ∣ B → w.den ∣ B → B2 (i * (wholeOf B x - wholeOf B u) * (wholeOf B y - wholeOf B w)).natAbs (7 + d + d) := fun i x y u w hi hx hy hu hw dx dy du dw => by
    obtain ⟨i1, i2⟩ := hi
    obtain ⟨x1, x2⟩ := whole_le hx dx
    obtain ⟨y1, y2⟩ := whole_le hy dy
    obtain ⟨u1, u2⟩ := whole_le hu du
    obtain ⟨w1, w2⟩ := whole_le hw dw
    rw [Int.natAbs_mul, Int.natAbs_mul]
    exact (B2.mul (a := 7) (by unfold B2; omega) (hB.le (by omega))).mul (hB.le (by omega))
  unfold ip
  refine b2_sum (fun x hx => ?_) (by simp)
  simp only [List.mem_cons, List.not_mem_nil, or_false] at hx
  rcases hx with rfl | rfl | rfl
  · exact t _ _ _ _ _ he.1 ha.1.1 hb.1.1 hq.1.1 hq.1.1 (ha.2 0) (hb.2 0) (hq.2 0) (hq.2 0)
  · exact t _ _ _ _ _ he.2.1 ha.1.2.1 hb.1.2.1 hq.1.2.1 hq.1.2.1 (ha.2 1) (hb.2 1) (hq.2 1) (hq.2 1)
  · exact t _ _ _ _ _ he.2.2 ha.1.2.2 hb.1.2.2 hq.1.2.2 hq.1.2.2 (ha.2 2) (hb.2 2) (hq.2 2) (hq.2 2)
theorem b2_gR {G : Nat → Nat → Int} {n f a b g : Nat} (h : ∀ i j, i < n → j < n → B2 (G i j).natAbs g) (hf : f < n) (ha : a < n) (hb : b < n) : B2 (gR G f a b).natAbs (g + 2) := by
  unfold gR
  exact (((h a b ha hb).add (h f a hf ha)).add ((h f b hf hb).add (h f f hf hf))).le (by omega)
theorem b2_gA {G : Nat → Nat → Int} {n f a g : Nat} (h : ∀ i j, i < n → j < n → B2 (G i j).natAbs g) (hf : f < n) (ha : a < n) : B2 (gA G f a).natAbs (g + 2) := by
  unfold gA
  exact ((((h f f hf hf).add (h f a hf ha)).mono (by omega))).le (by omega)
theorem b2_det2 {a b c d : Int} {m : Nat} (ha : B2 a.natAbs m) (hb : B2 b.natAbs m) (hc : B2 c.natAbs m) (hd : B2 d.natAbs m) : B2 (det2 a b c d).natAbs (m + m + 1) := by
  unfold det2
  have h1 := ha.mul hd
  have h2 := hb.mul hc
  rw [← Int.natAbs_mul] at h1 h2
  exact (h1.add h2).le (by omega)
theorem b2_det3 {a b c d e f g h i : Int} {m : Nat} (ha : B2 a.natAbs m) (hb : B2 b.natAbs m) (hc : B2 c.natAbs m) (hd : B2 d.natAbs m) (he : B2 e.natAbs m) (hf : B2 f.natAbs m) (hg : B2 g.natAbs m) (hh : B2 h.natAbs m) (hi : B2 i.natAbs m) : B2 (det3 a b c d e f g h i).natAbs (m + (m + m + 1) + 2) := by
  have q1 := ha.mul (b2_det2 he hf hh hi)
  have q2 := hb.mul (b2_det2 hd hf hg hi)
  have q3 := hc.mul (b2_det2 hd he hg hh)
  rw [← Int.natAbs_mul] at q1 q2 q3
  unfold det3
  unfold det2 at q1 q2 q3
  exact ((q1.add q2).add (q3.mono (Nat.le_succ _))).le (by omega)
theorem foot_b {G : Nat → Nat → Int} {n g : Nat} {ch : List Nat} (hG : ∀ i j, i < n → j < n → B2 (G i j).natAbs g) (h1 : 1 ≤ ch.length) (h4 : ch.length ≤ 4) (hch : ∀ k ∈ ch, k < n) : (∀ t ∈ (footF G ch).1, B2 t.natAbs (3 * g + 12)) ∧ B2 (footF G ch).2.natAbs (3 * g + 12) := by
  match ch, h1, h4 with
  | [f], _, _ =>
    have one : B2 (1 : Int).natAbs (3 * g + 12) := B2.mono (a := 1) (by unfold B2; decide) (by omega)
    refine ⟨fun t ht => ?_, one⟩
    have : t = 1 := by simpa [footF] using ht
    rw [this]
    exact one
  | [f, a], _, _ =>
    have hf := hch f (by simp)
    have ha := hch a (by simp)
    have r := b2_gR hG hf ha ha
    have s := b2_gA hG hf ha
    refine ⟨fun t ht => ?_, r.mono (by omega)⟩
    have : t = gR G f a a - [gA G f a].sum ∨ t = gA G f a := by simpa [footF] using ht
    rcases this with rfl | rfl
    · exact ((r.add s).mono (b := 3 * g + 12) (by omega)).le (by simp only [List.sum_cons, List.sum_nil]; omega)
    · exact s.mono (by omega)
  | [f, a, b], _, _ =>
    have hf := hch f (by simp)
    have ha := hch a (by simp)
    have hb := hch b (by simp)
    have r1 := b2_gR hG hf ha ha
    have r2 := b2_gR hG hf ha hb
    have r3 := b2_gR hG hf hb ha
    have r4 := b2_gR hG hf hb hb
    have s1 := b2_gA hG hf ha
    have s2 := b2_gA hG hf hb
    have d0 := b2_det2 r1 r2 r3 r4
    have d1 := b2_det2 s1 r2 s2 r4
    have d2 := b2_det2 r1 s1 r3 s2
    refine ⟨fun t ht => ?_, d0.mono (by omega)⟩
    simp only [footF, List.mem_cons, List.not_mem_nil, or_false, List.sum_cons, List.sum_nil] at ht
    rcases ht with rfl | rfl | rfl
    · exact ((((d0.add d1).add (d2.mono (Nat.le_succ _)))).mono (b := 3 * g + 12) (by omega)).le (by omega)
    · exact d1.mono (by omega)
    · exact d2.mono (by omega)
  | [f, a, b, c], _, _ =>
    have hf := hch f (by simp)
    have ha := hch a (by simp)
    have hb := hch b (by simp)
    have hc := hch c (by simp)
    have r1 := b2_gR hG hf ha ha
    have r2 := b2_gR hG hf ha hb
    have r3 := b2_gR hG hf ha hc
    have r4 := b2_gR hG hf hb ha
    have r5 := b2_gR hG hf hb hb
    have r6 := b2_gR hG hf hb hc
    have r7 := b2_gR hG hf hc ha
    have r8 := b2_gR hG hf hc hb
    have r9 := b2_gR hG hf hc hc
    have s1 := b2_gA hG hf ha
    have s2 := b2_gA hG hf hb
    have s3 := b2_gA hG hf hc
    have d0 := b2_det3 r1 r2 r3 r4 r5 r6 r7 r8 r9
    have d1 := b2_det3 s1 r2 r3 s2 r5 r6 s3 r8 r9
    have d2 := b2_det3 r1 s1 r3 r4 s2 r6 r7 s3 r9
    have d3 := b2_det3 r1 r2 s1 r4 r5 s2 r7 r8 s3
    refine ⟨fun t ht => ?_, d0.mono (by omega)⟩
    simp only [footF, List.mem_cons, List.not_mem_nil, or_false, List.sum_cons, List.sum_nil] at ht
    rcases ht with rfl | rfl | rfl | rfl
    · exact (((d0.add d1).add (d2.add d3)).mono (b := 3 * g + 12) (by omega)).le (by omega)
    · exact d1.mono (by omega)
    · exact d2.mono (by omega)
    · exact d3.mono (by omega)
/-! ### the walk -/
theorem gram_prod {e : E3} {B : Nat} {q : T3} {rows : List T3} : gramV e (rows.map (diffOf B q)) = prodV rows.length fun i j => ip e (diffOf B q (rows.getD i (0, 0, 0))) (diffOf B q (rows.getD j (0, 0, 0))) := by
  unfold gramV prodV
  have h : ∀ (f : T3 → Val), rows.map f = (List.range rows.length).map fun i => f (rows.getD i (0, 0, 0)) := fun f => by
    have h := congrArg (List.map f) (range_get rows)
    rw [List.map_map] at h
    exact h
  rw [List.map_map, h]
  congr 2
  funext i
  show Val.lst ((rows.map (diffOf B q)).map _) = _
  rw [List.map_map, h]
  rfl
/-- sizes with which lights may be looked at: a common bottom -/
structure LightsOk (rows : List T3) (q : T3) (D : Nat) : Prop where
  l1 : 1 ≤ rows.length
  l5 : rows.length ≤ 5
  D0 : 0 < D
  Db : B2 D 130
  ok : ∀ t ∈ q :: rows, In3 t ∧ ∀ k, (comp3 k t).den ∣ D
/-- .. what is told then -/
def NearF (e : E3) (rows : List T3) (q : T3) (D : Nat) (parts : List Rat) (near : T3) : Prop := Near e rows q parts near ∧ ∃ E, 0 < E ∧ B2 E 850 ∧ (∀ p ∈ parts, Fz E 1 p) ∧ Fz3 (E * D) 1 near ∧ In3 near
def sp_nearest_by : ISp where
  run := fun vs S Q _ => ∃ (rows : List T3) (q : T3) (e : E3) (D : Nat), vs = [.lst (rows.map trV), trV q, eyV e] ∧ Eye3 e ∧ LightsOk rows q D ∧ ∀ parts near, NearF e rows q D parts near → Q (.tup [.tup (parts.map frV), trV near]) S
  mono := fun hQ _ ⟨rows, q, e, D, h1, h2, h3, h4⟩ => ⟨rows, q, e, D, h1, h2, h3, fun p m h => hQ _ _ (h4 p m h)⟩
theorem fz_of {D : Nat} {x : Rat} (h0 : 0 < D) (h : In1 x) (hd : x.den ∣ D) : Fz D 1 x := by
  refine ⟨h0, wholeOf D x, ?_, ?_⟩
  · rw [whole_val hd]
    grind
  · obtain ⟨h1, h2⟩ := whole_le h hd
    omega
theorem fz3_of {D : Nat} {t : T3} (h0 : 0 < D) (h : In3 t) (hd : ∀ k, (comp3 k t).den ∣ D) : Fz3 D 1 t := ⟨fz_of h0 h.1 (hd 0), fz_of h0 h.2.1 (hd 1), fz_of h0 h.2.2 (hd 2)⟩
theorem getV_T : ∀ (ks : List Nat) (ts : List Int) (q : Nat), ks.length = ts.length → (getV (ks.map fun k : Nat => (Sum.inl (k : Int) : L2.Key)) (ts.map Val.int) (.inl (q : Int))).getD (.int 0) = .int (getT ks ts q)
  | [], _, q, _ => rfl
  | k :: ks, [], q, h => by cases h
  | k :: ks, t :: ts, q, h => by
    rw [List.map_cons, List.map_cons]
    unfold getV getT
    by_cases e : k = q
    · rw [if_pos e, if_pos (by rw [e])]
      rfl
    · rw [if_neg e, if_neg (fun z => e (by
        injection z with z
        omega))]
      exact getV_T ks ts q (by simpa using h)
theorem fz_rsum {D M : Nat} (h0 : 0 < D) : ∀ {xs : List Rat}, (∀ x ∈ xs, Fz D M x) → Fz D (xs.length * M) (rsum xs)
  | [], _ => (Fz.zero h0).up (by simp)
  | x :: r, h => by
    have h1 := h x List.mem_cons_self
    have h2 := fz_rsum h0 (xs := r) fun y hy => h y (List.mem_cons_of_mem _ hy)
    show Fz D _ (x + rsum r)
    exact (h1.add h2).up (by rw [List.length_cons, Nat.add_mul]; omega)
theorem made_in {k : Nat} : ∀ {rows : List T3} {parts : List Rat}, rows.length = parts.length → (∀ t ∈ rows, In3 t) → (∀ p ∈ parts, 0 ≤ p) → 0 ≤ madeK rows parts k ∧ madeK rows parts k ≤ rsum parts
  | [], [], _, _, _ => ⟨Rat.le_refl (a := 0), Rat.le_refl (a := 0)⟩
  | [], _ :: _, h, _, _ => by cases h
  | _ :: _, [], h, _, _ => by cases h
  | t :: rows, p :: parts, h, hr, hp => by
    obtain ⟨i1, i2⟩ := made_in (k := k) (rows := rows) (parts := parts) (by simpa using h) (fun t ht => hr t (List.mem_cons_of_mem _ ht)) fun p h => hp p (List.mem_cons_of_mem _ h)
    obtain ⟨c1, c2⟩ := (hr t List.mem_cons_self).k k
    have p0 := hp p List.mem_cons_self
    show 0 ≤ p * comp3 k t + madeK rows parts k ∧ p * comp3 k t + madeK rows parts k ≤ p + rsum parts
    have q1 := Rat.mul_nonneg p0 c1
    have q2 := Rat.mul_nonneg p0 (show 0 ≤ 1 - comp3 k t by grind)
    exact ⟨by grind, by grind⟩
theorem madeOk_of {rows : List T3} {parts : List Rat} {E D : Nat} (hl : rows.length = parts.length) (hn : rows.length ≤ 100) (hE : B2 E 850) (hD : B2 D 130) (hr : ∀ t ∈ rows, Fz3 D 1 t) (hp : ∀ p ∈ parts, Fz E 1 p) : MadeOk rows parts :=
  ⟨hl, hn, D, E, 1, 1, ((hE.mul hD).mul (hE.mul hD)).mono (by decide), B2.mono (a := 1) (by unfold B2; decide) (by decide), B2.mono (a := 1) (by unfold B2; decide) (by decide), hr, hp⟩
/-- sizes of what is made -/
theorem made_fz {rows : List T3} {parts : List Rat} {E D : Nat} (hE0 : 0 < E) (hD0 : 0 < D) (hl : rows.length = parts.length) (hi : ∀ t ∈ rows, In3 t) (hr : ∀ t ∈ rows, Fz3 D 1 t) (hp : ∀ p ∈ parts, Fz E 1 p) (h0 : ∀ p ∈ parts, 0 ≤ p) (h1 : rsum parts = 1) : Fz3 (E * D) 1 (madeF rows parts) ∧ In3 (madeF rows parts) := by
  have ED := Nat.mul_pos hE0 hD0
  have key : ∀ k, In1 (madeK rows parts k) ∧ Fz (E * D) 1 (madeK rows parts k) := fun k => by
    obtain ⟨i1, i2⟩ := made_in (k := k) hl hi h0
    rw [h1] at i2
    have f : Fz (E * D) (((rows.zip parts).map fun p => p.2 * comp3 k p.1).length * (1 * 1)) (madeK rows parts k) := fz_rsum ED fun x hx => by
      obtain ⟨p, hp', rfl⟩ := List.mem_map.mp hx
      exact (hp _ (List.of_mem_zip hp').2).mul ((hr _ (List.of_mem_zip hp').1).k k)
    exact ⟨⟨i1, i2⟩, fz_of ED ⟨i1, i2⟩ f.den_dvd⟩
  exact ⟨⟨(key 0).2, (key 1).2, (key 2).2⟩, ⟨(key 0).1, (key 1).1, (key 2).1⟩⟩
theorem nearF_of {e : E3} (he : Eye3 e) {rows : List T3} {q : T3} {D B : Nat} (ok : LightsOk rows q D) (hB : 0 < B) (hBD : B ∣ D) (hd : ∀ t ∈ q :: rows, ∀ k, (comp3 k t).den ∣ B) {ch : List Nat} {p : Nat → Bool} (hch : (List.range rows.length).filter p = ch) (h1 : 1 ≤ ch.length) (h4 : ch.length ≤ 4) {G : Nat → Nat → Int}
    (hG : ∀ i j, i < rows.length → j < rows.length → G i j = ip e (diffOf B q (rows.getD i (0, 0, 0))) (diffOf B q (rows.getD j (0, 0, 0)))) (bb : B2 (footF G ch).2.natAbs 850) (hf : isFootB rows.length G ch (footF G ch).1 (footF G ch).2 = true) :
    0 < (footF G ch).2 ∧ MadeOk rows ((List.range rows.length).map fun k => Rat.divInt (getT ch (footF G ch).1 k) (footF G ch).2) ∧ NearF e rows q D ((List.range rows.length).map fun k => Rat.divInt (getT ch (footF G ch).1 k) (footF G ch).2) (madeF rows ((List.range rows.length).map fun k => Rat.divInt (getT ch (footF G ch).1 k) (footF G ch).2)) := by
  obtain ⟨hb, hgt, N⟩ := near_of he hB hd hch h1 h4 hG hf
  have hE : (((footF G ch).2.natAbs : Nat) : Int) = (footF G ch).2 := by omega
  have fp : ∀ x ∈ (List.range rows.length).map fun k => Rat.divInt (getT ch (footF G ch).1 k) (footF G ch).2, Fz (footF G ch).2.natAbs 1 x := fun x hx => by
    obtain ⟨k, _, rfl⟩ := List.mem_map.mp hx
    have := Fz.mk (D := (footF G ch).2.natAbs) (getT ch (footF G ch).1 k) 1 (by omega) (by
      have := hgt k
      omega)
    rw [hE] at this
    exact this
  have fr : ∀ t ∈ rows, Fz3 D 1 t := fun t ht => by
    obtain ⟨a, b⟩ := ok.ok t (List.mem_cons_of_mem _ ht)
    exact fz3_of ok.D0 a b
  have fi : ∀ t ∈ rows, In3 t := fun t ht => (ok.ok t (List.mem_cons_of_mem _ ht)).1
  have hl := N.len.symm
  have l5 := ok.l5
  obtain ⟨z1, z2⟩ := made_fz (by omega) ok.D0 hl fi fr fp N.nn N.one
  exact ⟨hb, madeOk_of hl (by omega) bb ok.Db fr fp, N, (footF G ch).2.natAbs, by omega, bb, fp, z1, z2⟩
theorem call_low {t b : Int} {S : Sto} {Q : VQ} {er : EQ} (hb : b ≠ 0) (h9 : B2 b.natAbs 9000) (hQ : Q (frV (Rat.divInt t b)) S) : sp_low.run [.int t, .int b] S Q er := ⟨(t, b), rfl, ⟨hb, h9⟩, hQ⟩
theorem hsp_nearest_by {D : Nat → Li.G} {A : Addr → Str → Prop} (h14 : D 14 = .fn sp_low 2 []) (h109 : D 109 = .fn sp_made_by 2 []) (h111 : D 111 = .fn sp_products_of 3 []) (h113 : D 113 = .fn sp_foot_of 2 []) (h114 : D 114 = .fn sp_is_foot 4 []) (h115 : D 115 = .fn sp_choices 1 []) (vs : List Val) (S : Sto) (Q : VQ) (R : EQ) (hl : vs.length = 3) (h : sp_nearest_by.run vs S Q R) : evD { D := D, A := A, er := R } Pt.b_nearest_by 10 [] vs S Q := by
  obtain ⟨rows, q, e, E, rfl, he, ok, hQ⟩ := h
  have l1 := ok.l1
  have l5 := ok.l5
  unfold Pt.b_nearest_by
  walk_at "li"
  rw [h111, h113, h114, h115]
  walk_at "li"
  refine ⟨rows, q, e, E, rfl, by omega, he, ok.D0, ok.Db.mono (by decide), ok.ok, fun B hB hBD hd => ?_⟩
  rw [List.length_map]
  refine ⟨rows.length, rfl, l1, l5, fun cs C => ?_⟩
  rw [gram_prod]
  generalize hGG : (fun i j => ip e (diffOf B q (rows.getD i (0, 0, 0))) (diffOf B q (rows.getD j (0, 0, 0)))) = G
  have hG : ∀ i j, i < rows.length → j < rows.length → G i j = ip e (diffOf B q (rows.getD i (0, 0, 0))) (diffOf B q (rows.getD j (0, 0, 0))) := fun i j _ _ => by rw [← hGG]
  have hmem : ∀ i, i < rows.length → rows.getD i (0, 0, 0) ∈ rows := fun i hi => by
    rw [List.getD_eq_getElem?_getD, List.getElem?_eq_getElem hi]
    exact List.getElem_mem _
  have hin : ∀ t ∈ q :: rows, In3 t ∧ ∀ k, (comp3 k t).den ∣ B := fun t ht => ⟨(ok.ok t ht).1, hd t ht⟩
  have hGb : ∀ i j, i < rows.length → j < rows.length → B2 (G i j).natAbs 269 := fun i j hi hj => by
    rw [hG i j hi hj]
    exact gram_b (d := 130) he (b2_dvd ok.Db ok.D0 hBD) (hin _ (List.mem_cons_of_mem _ (hmem i hi))) (hin _ (List.mem_cons_of_mem _ (hmem j hj))) (hin _ List.mem_cons_self)
  walk_at "li"
  refine forL_inv (fun r σ S' => S' = S ∧ ∃ (ys : List (List Nat)) (o4 o5 o6 o7 o8 o9 : Option Val), r = ys.map chV ∧ (∀ c ∈ ys, c ∈ cs) ∧ (∀ c ∈ cs, c ∈ ys ∨ isFootB rows.length G c (footF G c).1 (footF G c).2 = false) ∧ σ = [some (.lst (rows.map trV)), some (trV q), some (eyV e), some (prodV rows.length G), o4, o5, o6, o7, o8, o9]) (fun _ _ _ _ => trivial) (fun v r σ S' nx h hn => ?_) (fun σ S' h => ?_) ⟨rfl, cs, none, none, none, none, none, none, rfl, fun _ h => h, fun _ h => .inl h, rfl⟩
  · obtain ⟨rfl, ys, o4, o5, o6, o7, o8, o9, hr, hsub, hall, rfl⟩ := h
    cases ys with
    | nil => cases hr
    | cons c ys =>
      rw [List.map_cons] at hr
      injection hr with hv hr
      subst hv
      obtain ⟨c1, c4, p, hcp⟩ := C.ok c (hsub c List.mem_cons_self)
      have hcl : ∀ k ∈ c, k < rows.length := fun k hk => by
        rw [hcp] at hk
        exact List.mem_range.mp (List.mem_filter.mp hk).1
      obtain ⟨ft, fb⟩ := foot_b hGb c1 c4 hcl
      obtain ⟨_, fl⟩ := foot_sum (G := G) c1 c4
      walk_at "li"
      refine ⟨rows.length, G, c, rfl, by omega, c1, c4, hcl, fun i j hi hj => (hGb i j hi hj).mono (by decide), ?_⟩
      walk_at "li"
      refine ⟨rows.length, G, c, (footF G c).1, (footF G c).2, rfl, by omega, c1, c4, fl, hcl, fun i j hi hj => (hGb i j hi hj).mono (by decide), fun t ht => (ft t ht).mono (by decide), fb.mono (by decide), ?_⟩
      walk_at "li"
      cases hf : isFootB rows.length G c (footF G c).1 (footF G c).2 with
      | false =>
        rw [if_neg (by decide)]
        refine hn _ _ ⟨rfl, ys, _, _, _, _, _, _, hr, fun c hc => hsub c (List.mem_cons_of_mem _ hc), fun c' hc' => ?_, rfl⟩
        rcases hall c' hc' with z | z
        · rcases List.mem_cons.mp z with rfl | z
          · exact .inr hf
          · exact .inl z
        · exact .inr z
      | true =>
        rw [if_pos rfl]
        obtain ⟨hb, mo, N⟩ := nearF_of he ok hB hBD hd hcp.symm c1 c4 hG (fb.mono (by decide)) hf
        have hcs : asInts (c.map fun k : Nat => Val.int (k : Int)) = some (c.map fun k : Nat => (k : Int)) := by
          rw [show (c.map fun k : Nat => Val.int (k : Int)) = (c.map fun k : Nat => (k : Int)).map Val.int by rw [List.map_map]; rfl]
          exact asInts_map
        have hnd : (c.map fun k : Nat => (k : Int)).Nodup := by
          rw [hcp]
          exact (List.Nodup.sublist List.filter_sublist List.nodup_range).map _ (fun a b h z => h (by omega))
        unfold chV intsV
        walk_at "li"
        rw [hcs]
        walk_at "li"
        refine ⟨by rw [List.length_map, List.length_map, fl], hnd, ?_⟩
        rw [List.length_map]
        refine ⟨⟨by omega, by omega⟩, ?_⟩
        rw [show (rows.length : Int).toNat = rows.length by simp, rngV_range rows.length 0, h14, h109]
        refine compL_mapA (xs := List.range rows.length) (f := fun k => frV (Rat.divInt (getT c (footF G c).1 k) (footF G c).2)) trivial (by rw [List.length_range, List.length_nil]; exact szn (by omega)) (fun k hk kk hkk => ?_) ?_
        · refine ⟨trivial, trivial, ?_⟩
          show callG (.fn sp_low 2 []) [(getV ((c.map fun k : Nat => (k : Int)).map Sum.inl) ((footF G c).1.map Val.int) (.inl (0 + (k : Int)))).getD (.int 0), .int (footF G c).2] 0 S' _ _
          rw [Int.zero_add, List.map_map]
          have e1 := getV_T c (footF G c).1 k fl.symm
          have e2 : (c.map fun k : Nat => (Sum.inl (k : Int) : L2.Key)) = c.map (Sum.inl ∘ fun k : Nat => (k : Int)) := rfl
          rw [e2] at e1
          rw [e1]
          exact ⟨rfl, call_low (by omega) (fb.mono (by decide)) hkk⟩
        · rw [List.nil_append]
          have e3 : (List.range rows.length).map (fun k => frV (Rat.divInt (getT c (footF G c).1 k) (footF G c).2)) = ((List.range rows.length).map fun k => Rat.divInt (getT c (footF G c).1 k) (footF G c).2).map frV := by
            rw [List.map_map]
            rfl
          rw [e3]
          exact ⟨trivial, rfl, rows, _, _, rfl, .inl rfl, mo, hQ _ _ N⟩
  · obtain ⟨rfl, ys, o4, o5, o6, o7, o8, o9, hr, hsub, hall, rfl⟩ := h
    have : ys = [] := by
      cases ys with
      | nil => rfl
      | cons _ _ => cases hr
    subst this
    exfalso
    obtain ⟨p, hne, h4, hf⟩ := exists_foot (G := G) (v := fun i => zR (diffOf B q (rows.getD i (0, 0, 0)))) (eR_pos he) (fun i j hi hj => by rw [hG i j hi hj, ip_cast]) l1
    rcases hall _ (C.all p hne h4) with z | z
    · cases z
    · rw [z] at hf
      cases hf
end Li
set_option Elab.async false
set_option linter.all false
set_option maxRecDepth 100000
set_option maxHeartbeats 2000000
/-! Lg8: the line, make. -/
namespace Li
open PySem
local macro_rules | `(tactic| walk_at "li") => `(tactic| simp only [evD, evSs, evS, evE, evEs, evI, evO, evIt, slotQ_0, slotQ_s, cloQ_0, cloQ_s, capQ_nil, capQ_cons, intQ_i, adrQ_a, lstQ_l, tupQ_t, dctQ_d, optQ_s, gvalQ_v, brV_s, asL_l, truV_b, truV_n, truV_i, lenV_t, lenV_s, lenV_l, idxV_t, idxV_s, idxV_l, atI_0, atI_1, atI_2, atI_3, bin_add, bin_sub, bin_mul, bin_div, bin_mod, bin_pow, bin_shl, bin_shr, bin_and, bin_addL, bin_addT, aug_add, aug_sub, aug_mul, cmp_lt, cmp_le, cmp_gt, cmp_ge, cmp_is, cmp_isnt, cmp_eq, cmp_ne, tst_e, wipe_nil, wipe_cons, asg_one, asg_many, asgs_nil, asgs_cons, seqV_t, seqV_s, seqV_l, chkV_t, chkV_l, chkV_s, chkV_a, callG_fn, isCal_fn, isCal_cls, isCalk_fn, callK_fn, frz_nil, puSp_run, bf_len, bf_abs, bf_int, bf_intb, bf_tupT, bf_tupL, bf_listL, bf_listT, bf_min2, bf_max2, bf_isi, slc_l, slc_t, slc_s, fld_i, setB, tabA_hit, isi_tt, isi_ti, isi_ii, isi_it, isi_ib, isi_bi, isi_bb, isi_ss, Cxt.nox, natI_0, natI_1, natI_2, natI_3, natI_4, natI_5, natI_6, natI_7, Bool.not_true, Bool.not_false, decide_true, decide_false, Bool.false_eq_true, if_true, if_false, celQ_set, idxV_set, Sto.set_set, ixN_30, ixN_31, ixN_32, enumV_n, enumV_c, zipV_n, zipV_c, objQ_set, isNon_n, isNon_t, isNon_i, setC_l, dropC_n, dropC_s, dropC_a, cellOf_0, cellOf_s, cellOf_n, frz_cons, frz1_s, frz1_n, sbst_t, sbst_l, sbst_i, sbst_b, sbst_non, sbst_str, sbst_a, sbsts_n, sbsts_c, bin_addLA_set, lenV_set, seqV_set, bf_tupA_set, bmP_app, bmV_app, bf_sum_set, bf_sum_l, asInts_n, asInts_c, Option.map_some, sz_0, sz_1, sz_2, sz_3, sz_4, sz_5, sz_6, sz_7, List.map_cons, List.map_nil, List.length_cons, List.length_nil, List.cons_append, List.nil_append, List.append_nil, List.drop_nil, List.set_cons_zero, List.set_cons_succ, List.replicate_succ, List.replicate_zero, Nat.reduceSub, Nat.reduceAdd, decide_eq_true_eq, true_and, and_true])
local macro_rules | `(tactic| walk_at "lc") => `(tactic| simp only [evD, evSs, evS, evE, evEs, evI, evO, evIt, slotQ_0, slotQ_s, cloQ_0, cloQ_s, capQ_nil, capQ_cons, intQ_i, adrQ_a, lstQ_l, tupQ_t, dctQ_d, optQ_s, gvalQ_v, brV_s, asL_l, truV_b, truV_n, truV_i, lenV_t, lenV_s, lenV_l, idxV_t, idxV_s, idxV_l, atI_0, atI_1, atI_2, atI_3, bin_add, bin_sub, bin_mul, bin_div, bin_mod, bin_pow, bin_shl, bin_shr, bin_and, bin_addL, bin_addT, aug_add, aug_sub, aug_mul, cmp_lt, cmp_le, cmp_gt, cmp_ge, cmp_is, cmp_isnt, cmp_eq, cmp_ne, tst_e, wipe_nil, wipe_cons, asg_one, asg_many, asgs_nil, asgs_cons, seqV_t, seqV_s, seqV_l, chkV_t, chkV_l, chkV_s, chkV_a, callG_fn, isCal_fn, isCal_cls, isCalk_fn, callK_fn, frz_nil, puSp_run, bf_len, bf_abs, bf_int, bf_intb, bf_tupT, bf_tupL, bf_listL, bf_listT, bf_min2, bf_max2, bf_isi, slc_l, slc_t, slc_s, fld_i, setB, tabA_hit, isi_tt, isi_ti, isi_ii, isi_it, isi_ib, isi_bi, isi_bb, isi_ss, Cxt.nox, natI_0, natI_1, natI_2, natI_3, natI_4, natI_5, natI_6, natI_7, Bool.not_true, Bool.not_false, decide_true, decide_false, Bool.false_eq_true, if_true, if_false, celQ_set, idxV_set, Sto.set_set, ixN_30, ixN_31, ixN_32, enumV_n, enumV_c, zipV_n, zipV_c, objQ_set, isNon_n, isNon_t, isNon_i, setC_l, dropC_n, dropC_s, dropC_a, cellOf_0, cellOf_s, cellOf_n, frz_cons, frz1_s, frz1_n, sbst_t, sbst_l, sbst_i, sbst_b, sbst_non, sbst_str, sbst_a, sbsts_n, sbsts_c, bin_addLA_set, lenV_set, seqV_set, bf_tupA_set, bmP_app, bmV_app, bf_sum_set, bf_sum_l, asInts_n, asInts_c, Option.map_some, sz_0, sz_1, sz_2, sz_3, sz_4, sz_5, sz_6, sz_7, List.map_cons, List.map_nil, List.length_cons, List.length_nil, List.cons_append, List.nil_append, List.append_nil, List.drop_nil, List.set_cons_zero, List.set_cons_succ, List.replicate_succ, List.replicate_zero, Nat.reduceSub, Nat.reduceAdd, decide_eq_true_eq, true_and, and_true, cut1_h0, cut1_l1, cut2_h0, cut2_h1, cut2_l1, cut2_l2, cut3_h0, cut3_h1, cut3_h2, cut3_l1, cut3_l2, cut3_l3, cut4_l1, Int.reduceAdd, Int.reduceSub, Int.reduceMod, Int.reduceNeg, compL_cons, compL_nil, forL_cons, forL_nil, rng0, rng1n, rng2, rng3, r62_0, r62_1, r62_2, r62_3, szl_0, szl_1, szl_2, szl_3, szl_4, szl_5, szl_6, szl_7])
/-! ### alike -/
def frD (x : Rat) : PyData := .tuple [.int x.num, .int x.den]
theorem toPy0_fr (x : Rat) : toPy0 (frV x) = some (frD x) := rfl
theorem eqv_fr (x y : Rat) : PyData.eqv (frD x) (frD y) = decide (x = y) := by
  unfold frD
  simp only [PyData.eqv, PyData.eqvAll, Bool.and_true]
  rw [Bool.eq_iff_iff, Bool.and_eq_true, decide_eq_true_eq]
  constructor
  · rintro ⟨h1, h2⟩
    have h1 : x.num = y.num := by simpa using h1
    have h2 : (x.den : Int) = y.den := by simpa using h2
    exact Rat.ext h1 (by omega)
  · rintro rfl
    exact ⟨by simp, by simp⟩
theorem shaped_fr (x : Rat) : SeqAt.shaped (frD x) = true := by
  simp [SeqAt.shaped, frD, PyData.canLay0, PyData.canLayAll0, PyData.depth, PyData.depthAll]
theorem eq_fr {S : Sto} {P : Bool → Prop} {x y : Rat} : cmpV S .Eq (frV x) (frV y) P = P (decide (x = y)) := by
  show (SeqAt.shaped (frD x) = true ∧ SeqAt.shaped (frD y) = true ∧ P (id (PyData.eqv (frD x) (frD y)))) = _
  rw [shaped_fr, shaped_fr, eqv_fr]
  simp
theorem ne_fr {S : Sto} {P : Bool → Prop} {x y : Rat} : cmpV S .NotEq (frV x) (frV y) P = P (!decide (x = y)) := by
  show (SeqAt.shaped (frD x) = true ∧ SeqAt.shaped (frD y) = true ∧ P (not (PyData.eqv (frD x) (frD y)))) = _
  rw [shaped_fr, shaped_fr, eqv_fr]
  simp
def trD (t : T3) : PyData := .tuple [frD t.1, frD t.2.1, frD t.2.2]
theorem shaped_tr (t : T3) : SeqAt.shaped (trD t) = true := by
  simp [SeqAt.shaped, trD, frD, PyData.canLay0, PyData.canLayAll0, PyData.depth, PyData.depthAll]
theorem eqv_tr (s t : T3) : PyData.eqv (trD s) (trD t) = decide (s = t) := by
  unfold trD
  have e : ∀ a b : Rat, PyData.eqv (frD a) (frD b) = decide (a = b) := eqv_fr
  have h : PyData.eqv (.tuple [frD s.1, frD s.2.1, frD s.2.2]) (.tuple [frD t.1, frD t.2.1, frD t.2.2]) = (PyData.eqv (frD s.1) (frD t.1) && (PyData.eqv (frD s.2.1) (frD t.2.1) && (PyData.eqv (frD s.2.2) (frD t.2.2) && true))) := by
    simp only [PyData.eqv, PyData.eqvAll]
  rw [h, e, e, e]
  obtain ⟨a, b, c⟩ := s
  obtain ⟨a', b', c'⟩ := t
  simp [Bool.decide_and]
theorem eq_tr {S : Sto} {P : Bool → Prop} {s t : T3} : cmpV S .Eq (trV s) (trV t) P = P (decide (s = t)) := by
  show (SeqAt.shaped (trD s) = true ∧ SeqAt.shaped (trD t) = true ∧ P (id (PyData.eqv (trD s) (trD t)))) = _
  rw [shaped_tr, shaped_tr, eqv_tr]
  simp
/-! ### the line -/
def lineW (e : E3) (q m : T3) : T3 := ((e.1 : Rat) * (q.1 - m.1), (e.2.1 : Rat) * (q.2.1 - m.2.1), (e.2.2 : Rat) * (q.2.2 - m.2.2))
def lineN (e : E3) (q m : T3) : Rat := rsum [(lineW e q m).1 * m.1, (lineW e q m).2.1 * m.2.1, (lineW e q m).2.2 * m.2.2]
def lineV (e : E3) (q m : T3) : Val := .tup [trV (lineW e q m), frV (lineN e q m)]
/-- sizes: all of 1 / N, at most 1 -/
structure LineOk (e : E3) (q m : T3) : Prop where
  e3 : Eye3 e
  ex : ∃ N, B2 N 1000 ∧ Fz3 N 1 q ∧ Fz3 N 1 m
theorem line_sz {N : Nat} {i : Int} {x y : Rat} (bN : B2 N 1000) (hi : Eye1 i) (hx : Fz N 1 x) (hy : Fz N 1 y) : Pz x y ∧ Pz (i : Rat) (x - y) ∧ Pz ((i : Rat) * (x - y)) y ∧ Fz (N * N) 198 ((i : Rat) * (x - y) * y) := by
  have h2 := hx.sub hy
  have h3 := (eyeF hi).mul h2
  have h4 := h3.mul hy
  rw [Nat.one_mul] at h3 h4
  have NN : B2 (N * N) 9000 := (bN.mul bN).mono (by decide)
  have s : ∀ M, M ≤ 1000 → B2 (M * N) 1000000 := fun M hM => (B2.mul (B2.le (n := 1000) (show B2 1000 10 by unfold B2; decide) hM) bN).mono (by decide)
  exact ⟨hx.pz hy NN (s 1 (by decide)) (s 1 (by decide)), (eyeF hi).pz h2 (by rw [Nat.one_mul]; exact bN.mono (by decide)) (show B2 (99 * 1) 1000000 from B2.mono (a := 7) (by unfold B2; decide) (by decide)) (s 2 (by decide)), h3.pz hy NN (s 198 (by decide)) (s 1 (by decide)), h4⟩
theorem line_sum {N : Nat} {x y z : Rat} (bN : B2 N 1000) (hx : Fz (N * N) 198 x) (hy : Fz (N * N) 198 y) (hz : Fz (N * N) 198 z) : PzS 0 [x, y, z] := by
  refine pzS_of (D := N * N) (M := 198) (N := 0) (((bN.mul bN).mul (bN.mul bN)).mono (by decide)) (Fz.zero hx.1) (fun u hu => ?_) ?_
  · simp only [List.mem_cons, List.not_mem_nil, or_false] at hu
    rcases hu with rfl | rfl | rfl <;> assumption
  · exact (B2.mul (show B2 (0 + [x, y, z].length * 198) 10 by unfold B2; simp) (bN.mul bN)).mono (by decide)
def sp_line_by : ISp := puSp (fun p : E3 × T3 × T3 => [trV p.2.1, trV p.2.2, eyV p.1]) (fun p => LineOk p.1 p.2.1 p.2.2) fun p => lineV p.1 p.2.1 p.2.2
theorem hsp_line_by {D : Nat → Li.G} {A : Addr → Str → Prop} (h20 : D 20 = .fn sp_mul 2 []) (h22 : D 22 = .fn sp_total 1 []) (h108 : D 108 = .fn sp_gaps 2 []) (vs : List Val) (S : Sto) (Q : VQ) (R : EQ) (hl : vs.length = 3) (h : sp_line_by.run vs S Q R) : evD { D := D, A := A, er := R } Pt.b_line_by 8 [] vs S Q := by
  obtain ⟨⟨e, q, m⟩, rfl, ⟨⟨e1, e2, e3⟩, N, bN, ⟨q1, q2, q3⟩, ⟨m1, m2, m3⟩⟩, hQ⟩ := h
  obtain ⟨a1, b1, c1, d1⟩ := line_sz bN e1 q1 m1
  obtain ⟨a2, b2, c2, d2⟩ := line_sz bN e2 q2 m2
  obtain ⟨a3, b3, c3, d3⟩ := line_sz bN e3 q3 m3
  unfold Pt.b_line_by eyV
  walk_at "lc"
  rw [h20, h22, h108]
  walk_at "lc"
  refine ⟨⟨q, m⟩, rfl, ⟨a1, a2, a3⟩, ?_⟩
  unfold trV gap
  walk_at "lc"
  refine call_mul (x := (e.1 : Rat)) b1 ?_
  refine call_mul (x := (e.2.1 : Rat)) b2 ?_
  refine call_mul (x := (e.2.2 : Rat)) b3 ?_
  refine call_mul c1 ?_
  refine call_mul c2 ?_
  refine call_mul c3 ?_
  exact call_totalL (xs := [_, _, _]) (line_sum bN d1 d2 d3) hQ
/-! ### make -/
/-- what make tells -/
def MakeR (C : Addr) (e : E3) (rows : List T3) (q : T3) (D : Nat) (v : Val) : Prop := ∃ parts near r, NearF e rows q D parts near ∧ ((near = q ∧ r = .non) ∨ (near ≠ q ∧ r = lineV e q near)) ∧ v = .tup [.tup (parts.map frV), shV C near, r]
def sp_make (C : Addr) : ISp where
  run := fun vs S Q _ => ∃ (rows : List T3) (q : T3) (e : E3) (D : Nat), vs = [.tup (rows.map (shV C)), shV C q, eyV e] ∧ Eye3 e ∧ LightsOk rows q D ∧ ∀ v, MakeR C e rows q D v → Q v S
  mono := fun hQ _ ⟨rows, q, e, D, h1, h2, h3, h4⟩ => ⟨rows, q, e, D, h1, h2, h3, fun v h => hQ _ _ (h4 v h)⟩
theorem lineOk_of {e : E3} {rows : List T3} {q near : T3} {D : Nat} {parts : List Rat} (he : Eye3 e) (ok : LightsOk rows q D) (N : NearF e rows q D parts near) : LineOk e q near := by
  obtain ⟨_, E, E0, Eb, _, f, _⟩ := N
  have hq := ok.ok q List.mem_cons_self
  have h0 := Nat.mul_pos E0 ok.D0
  have fq := fz3_of ok.D0 hq.1 hq.2
  refine ⟨he, E * D, (Eb.mul ok.Db).mono (by decide), ⟨?_, ?_, ?_⟩, f⟩
  · exact fq.1.mono (Nat.dvd_mul_left _ _) h0 (Nat.le_refl _)
  · exact fq.2.1.mono (Nat.dvd_mul_left _ _) h0 (Nat.le_refl _)
  · exact fq.2.2.mono (Nat.dvd_mul_left _ _) h0 (Nat.le_refl _)
theorem hsp_make {C : Addr} {D : Nat → Li.G} {A : Addr → Str → Prop} (h25 : D 25 = .fn (sp_check_shade C) 1 []) (h26 : D 26 = .fn (sp_parts_of C) 1 []) (h31 : D 31 = .fn sp_check_eye 1 []) (h47 : D 47 = .fn (sp_shade_by C) 1 []) (h107 : D 107 = .fn (sp_check_lights C) 1 []) (h116 : D 116 = .fn sp_nearest_by 3 []) (h117 : D 117 = .fn sp_line_by 3 []) (vs : List Val) (S : Sto) (Q : VQ) (R : EQ) (hl : vs.length = 3) (h : (sp_make C).run vs S Q R) : evD { D := D, A := A, er := R } Pt.b_make 8 [] vs S Q := by
  obtain ⟨rows, q, e, E, rfl, he, ok, hQ⟩ := h
  have l1 := ok.l1
  have l5 := ok.l5
  unfold Pt.b_make
  walk_at "li"
  rw [h25, h26, h31, h47, h107, h116, h117]
  walk_at "li"
  refine ⟨rows, rfl, ⟨l1, l5⟩, q, rfl, trivial, e, rfl, he, q, rfl, trivial, ?_⟩
  walk_at "li"
  refine compL_mapA (f := fun t : T3 => trV t) trivial (by rw [List.length_nil]; exact szn (by omega)) (fun t ht k hk => ⟨t, rfl, trivial, hk⟩) ?_
  rw [List.nil_append]
  refine ⟨rows, q, e, E, rfl, he, ok, fun parts near N => ?_⟩
  walk_at "li"
  rw [eq_tr]
  walk_at "li"
  have hi : In3 near := N.2.choose_spec.2.2.2.2
  by_cases hn : near = q
  · rw [if_pos hn]
    refine ⟨near, rfl, hi, ?_⟩
    exact hQ _ ⟨parts, near, .non, N, .inl ⟨hn, rfl⟩, rfl⟩
  · rw [if_neg hn]
    refine ⟨near, rfl, hi, ⟨e, q, near⟩, rfl, lineOk_of he ok N, ?_⟩
    exact hQ _ ⟨parts, near, _, N, .inr ⟨hn, rfl⟩, rfl⟩
end Li
set_option Elab.async false
set_option linter.all false
set_option maxRecDepth 100000
set_option maxHeartbeats 2000000
/-! Lw1: what the laws about lights draw. -/
namespace Li
open PySem
local macro_rules | `(tactic| walk_at "lt") => `(tactic| try simp only [evD, evSs, evS, evE, evEs, evI, evO, evIt, slotQ_0, slotQ_s, cloQ_0, cloQ_s, capQ_nil, capQ_cons, intQ_i, adrQ_a, lstQ_l, tupQ_t, dctQ_d, optQ_s, gvalQ_v, brV_s, asL_l, truV_b, truV_n, truV_i, lenV_t, lenV_s, lenV_l, idxV_t, idxV_s, idxV_l, atI_0, atI_1, atI_2, atI_3, bin_add, bin_sub, bin_mul, bin_div, bin_mod, bin_pow, bin_shl, bin_shr, bin_and, bin_addL, bin_addT, aug_add, aug_sub, aug_mul, cmp_lt, cmp_le, cmp_gt, cmp_ge, cmp_is, cmp_isnt, cmp_eq, cmp_ne, tst_e, wipe_nil, wipe_cons, asg_one, asg_many, asgs_nil, asgs_cons, seqV_t, seqV_s, seqV_l, chkV_t, chkV_l, chkV_s, chkV_a, callG_fn, isCal_fn, isCal_cls, isCalk_fn, callK_fn, frz_nil, puSp_run, bf_len, bf_abs, bf_int, bf_intb, bf_tupT, bf_tupL, bf_listL, bf_listT, bf_min2, bf_max2, bf_isi, slc_l, slc_t, slc_s, fld_i, setB, tabA_hit, isi_tt, isi_ti, isi_ii, isi_it, isi_ib, isi_bi, isi_bb, isi_ss, Cxt.nox, natI_0, natI_1, natI_2, natI_3, natI_4, natI_5, natI_6, natI_7, Bool.not_true, Bool.not_false, decide_true, decide_false, Bool.false_eq_true, if_true, if_false, celQ_set, idxV_set, Sto.set_set, ixN_30, ixN_31, ixN_32, enumV_n, enumV_c, zipV_n, zipV_c, objQ_set, isNon_n, isNon_t, isNon_i, setC_l, dropC_n, dropC_s, dropC_a, cellOf_0, cellOf_s, cellOf_n, frz_cons, frz1_s, frz1_n, sbst_t, sbst_l, sbst_i, sbst_b, sbst_non, sbst_str, sbst_a, sbsts_n, sbsts_c, bin_addLA_set, lenV_set, seqV_set, bf_tupA_set, bmP_app, bmV_app, bf_sum_set, bf_sum_l, asInts_n, asInts_c, Option.map_some, sz_0, sz_1, sz_2, sz_3, sz_4, sz_5, sz_6, sz_7, List.map_cons, List.map_nil, List.length_cons, List.length_nil, List.cons_append, List.nil_append, List.append_nil, List.drop_nil, List.set_cons_zero, List.set_cons_succ, List.replicate_succ, List.replicate_zero, Nat.reduceSub, Nat.reduceAdd, decide_eq_true_eq, true_and, and_true, cut1_h0, cut1_l1, cut2_h0, cut2_h1, cut2_l1, cut2_l2, cut3_h0, cut3_h1, cut3_h2, cut3_l1, cut3_l2, cut3_l3, cut4_l1, Int.reduceAdd, Int.reduceSub, Int.reduceMod, Int.reduceNeg, compL_cons, compL_nil, forL_cons, forL_nil, rng0, rng1n, rng2, rng3, r62_0, r62_1, r62_2, r62_3, szl_0, szl_1, szl_2, szl_3, szl_4, szl_5, szl_6, szl_7])
local macro_rules | `(tactic| walk_at "li") => `(tactic| simp only [evD, evSs, evS, evE, evEs, evI, evO, evIt, slotQ_0, slotQ_s, cloQ_0, cloQ_s, capQ_nil, capQ_cons, intQ_i, adrQ_a, lstQ_l, tupQ_t, dctQ_d, optQ_s, gvalQ_v, brV_s, asL_l, truV_b, truV_n, truV_i, lenV_t, lenV_s, lenV_l, idxV_t, idxV_s, idxV_l, atI_0, atI_1, atI_2, atI_3, bin_add, bin_sub, bin_mul, bin_div, bin_mod, bin_pow, bin_shl, bin_shr, bin_and, bin_addL, bin_addT, aug_add, aug_sub, aug_mul, cmp_lt, cmp_le, cmp_gt, cmp_ge, cmp_is, cmp_isnt, cmp_eq, cmp_ne, tst_e, wipe_nil, wipe_cons, asg_one, asg_many, asgs_nil, asgs_cons, seqV_t, seqV_s, seqV_l, chkV_t, chkV_l, chkV_s, chkV_a, callG_fn, isCal_fn, isCal_cls, isCalk_fn, callK_fn, frz_nil, puSp_run, bf_len, bf_abs, bf_int, bf_intb, bf_tupT, bf_tupL, bf_listL, bf_listT, bf_min2, bf_max2, bf_isi, slc_l, slc_t, slc_s, fld_i, setB, tabA_hit, isi_tt, isi_ti, isi_ii, isi_it, isi_ib, isi_bi, isi_bb, isi_ss, Cxt.nox, natI_0, natI_1, natI_2, natI_3, natI_4, natI_5, natI_6, natI_7, Bool.not_true, Bool.not_false, decide_true, decide_false, Bool.false_eq_true, if_true, if_false, celQ_set, idxV_set, Sto.set_set, ixN_30, ixN_31, ixN_32, enumV_n, enumV_c, zipV_n, zipV_c, objQ_set, isNon_n, isNon_t, isNon_i, setC_l, dropC_n, dropC_s, dropC_a, cellOf_0, cellOf_s, cellOf_n, frz_cons, frz1_s, frz1_n, sbst_t, sbst_l, sbst_i, sbst_b, sbst_non, sbst_str, sbst_a, sbsts_n, sbsts_c, bin_addLA_set, lenV_set, seqV_set, bf_tupA_set, bmP_app, bmV_app, bf_sum_set, bf_sum_l, asInts_n, asInts_c, Option.map_some, sz_0, sz_1, sz_2, sz_3, sz_4, sz_5, sz_6, sz_7, List.map_cons, List.map_nil, List.length_cons, List.length_nil, List.cons_append, List.nil_append, List.append_nil, List.drop_nil, List.set_cons_zero, List.set_cons_succ, List.replicate_succ, List.replicate_zero, Nat.reduceSub, Nat.reduceAdd, decide_eq_true_eq, true_and, and_true])
local macro_rules | `(tactic| walk_at "lc") => `(tactic| simp only [evD, evSs, evS, evE, evEs, evI, evO, evIt, slotQ_0, slotQ_s, cloQ_0, cloQ_s, capQ_nil, capQ_cons, intQ_i, adrQ_a, lstQ_l, tupQ_t, dctQ_d, optQ_s, gvalQ_v, brV_s, asL_l, truV_b, truV_n, truV_i, lenV_t, lenV_s, lenV_l, idxV_t, idxV_s, idxV_l, atI_0, atI_1, atI_2, atI_3, bin_add, bin_sub, bin_mul, bin_div, bin_mod, bin_pow, bin_shl, bin_shr, bin_and, bin_addL, bin_addT, aug_add, aug_sub, aug_mul, cmp_lt, cmp_le, cmp_gt, cmp_ge, cmp_is, cmp_isnt, cmp_eq, cmp_ne, tst_e, wipe_nil, wipe_cons, asg_one, asg_many, asgs_nil, asgs_cons, seqV_t, seqV_s, seqV_l, chkV_t, chkV_l, chkV_s, chkV_a, callG_fn, isCal_fn, isCal_cls, isCalk_fn, callK_fn, frz_nil, puSp_run, bf_len, bf_abs, bf_int, bf_intb, bf_tupT, bf_tupL, bf_listL, bf_listT, bf_min2, bf_max2, bf_isi, slc_l, slc_t, slc_s, fld_i, setB, tabA_hit, isi_tt, isi_ti, isi_ii, isi_it, isi_ib, isi_bi, isi_bb, isi_ss, Cxt.nox, natI_0, natI_1, natI_2, natI_3, natI_4, natI_5, natI_6, natI_7, Bool.not_true, Bool.not_false, decide_true, decide_false, Bool.false_eq_true, if_true, if_false, celQ_set, idxV_set, Sto.set_set, ixN_30, ixN_31, ixN_32, enumV_n, enumV_c, zipV_n, zipV_c, objQ_set, isNon_n, isNon_t, isNon_i, setC_l, dropC_n, dropC_s, dropC_a, cellOf_0, cellOf_s, cellOf_n, frz_cons, frz1_s, frz1_n, sbst_t, sbst_l, sbst_i, sbst_b, sbst_non, sbst_str, sbst_a, sbsts_n, sbsts_c, bin_addLA_set, lenV_set, seqV_set, bf_tupA_set, bmP_app, bmV_app, bf_sum_set, bf_sum_l, asInts_n, asInts_c, Option.map_some, sz_0, sz_1, sz_2, sz_3, sz_4, sz_5, sz_6, sz_7, List.map_cons, List.map_nil, List.length_cons, List.length_nil, List.cons_append, List.nil_append, List.append_nil, List.drop_nil, List.set_cons_zero, List.set_cons_succ, List.replicate_succ, List.replicate_zero, Nat.reduceSub, Nat.reduceAdd, decide_eq_true_eq, true_and, and_true, cut1_h0, cut1_l1, cut2_h0, cut2_h1, cut2_l1, cut2_l2, cut3_h0, cut3_h1, cut3_h2, cut3_l1, cut3_l2, cut3_l3, cut4_l1, Int.reduceAdd, Int.reduceSub, Int.reduceMod, Int.reduceNeg, compL_cons, compL_nil, forL_cons, forL_nil, rng0, rng1n, rng2, rng3, r62_0, r62_1, r62_2, r62_3, szl_0, szl_1, szl_2, szl_3, szl_4, szl_5, szl_6, szl_7])
theorem compL_inv2 {step : Val → Sto → (Option Val → Sto → Prop) → Prop} {chk : Sto → Prop} {R : List Val → Sto → Prop} (I : List Val → List Val → Sto → Prop) (hc : ∀ r acc S, I r acc S → chk S ∧ acc.length + r.length ≤ sizeLine) (hs : ∀ v r acc S (k : Option Val → Sto → Prop), I (v :: r) acc S → (∀ y S', I r (acc ++ [y]) S' → k (some y) S') → (∀ S', I r acc S' → k none S') → step v S k) (hR : ∀ acc S, I [] acc S → R acc S) : ∀ {vs acc : List Val} {S : Sto}, I vs acc S → compL step chk vs acc S R
  | [], acc, S, h => ⟨(hc _ _ _ h).1, hR _ _ h⟩
  | v :: r, acc, S, h => by
    obtain ⟨h1, h2⟩ := hc _ _ _ h
    rw [List.length_cons] at h2
    exact ⟨h1, hs v r acc S _ h (fun y S' q => ⟨by omega, compL_inv2 I hc hs hR q⟩) fun S' q => compL_inv2 I hc hs hR q⟩
theorem cellOf_h {σ : Env} {S : Sto} {a : Addr} {vs : List Val} (h : S a = some (.lst vs)) : cellOf (some (.adr a) :: σ) S 0 = some (a, vs) := by
  show (match S a with
    | some (.lst vs) => some (a, vs)
    | _ => none) = _
  rw [h]
/-- a cell made and ended beside a purse -/
theorem Ins.cell {S S1 S2 : Sto} {p a : Addr} {c : Cell} (h1 : Ins S S1 p) (ha : S1 a = none) (hp : a ≠ p) (h2 : Ins (S1.set a c) S2 p) : Ins S (S2.del a) p := fun x hx => by
  by_cases e : x = a
  · rw [e, Sto.del_same, ← h1 a hp, ha]
  · rw [Sto.del_ne e, h2 x hx, Sto.set_ne e, h1 x hx]
theorem Pur.del {S : Sto} {p a : Addr} {n : Nat} (h : Pur S p n) (ha : a ≠ p) : Pur (S.del a) p n := by
  obtain ⟨x, y, z, h1, r⟩ := h
  exact ⟨x, y, z, by rw [Sto.del_ne ha.symm]; exact h1, r⟩
theorem Pur.set {S : Sto} {p a : Addr} {n : Nat} {c : Cell} (h : Pur S p n) (ha : a ≠ p) : Pur (S.set a c) p n := by
  obtain ⟨x, y, z, h1, r⟩ := h
  exact ⟨x, y, z, by rw [Sto.set_ne ha.symm]; exact h1, r⟩
theorem Pur.ne {S : Sto} {p a : Addr} {n : Nat} (h : Pur S p n) (ha : S a = none) : a ≠ p := fun e => by
  obtain ⟨x, y, z, h1, r⟩ := h
  rw [← e, ha] at h1
  cases h1
theorem call_pick {p : Addr} {m : Int} {n : Nat} {S : Sto} {Q : VQ} {er : EQ} (hP : Pur S p n) (h64 : n < 2 ^ 70) (hm : 0 < m) (hm2 : m < 2 ^ 200) (k : ∀ t S', 0 ≤ t → t < m → Ins S S' p → Pur S' p (n + 1) → Q (.int t) S') : sp__law_pick.run [.adr p, .int m] S Q er :=
  ⟨p, m, n, rfl, hP, h64, ⟨hm, hm2⟩, fun v S' ⟨t, hv, t0, t1⟩ hI hP' => by
    subst hv
    exact k t S' t0 t1 hI hP'⟩
/-! ### a cell of the script -/
def sp__law_cell : ISp where
  run := fun vs S Q _ => ∃ (ns : List Int) (k : Nat), vs = [.scr ns, .int k] ∧ k < 1000 ∧ ∀ i, Q (.int i) S
  mono := fun hQ _ ⟨ns, k, h1, h2, h3⟩ => ⟨ns, k, h1, h2, fun i => hQ _ _ (h3 i)⟩
theorem b2i {i : Int} {n : Nat} (h0 : 0 ≤ i) (h : i < 2 ^ n) : B2 i.natAbs n := by
  unfold B2
  have e : ((2 ^ n : Nat) : Int) = (2 : Int) ^ n := by simp
  omega
theorem hsp__law_cell {D : Nat → Li.G} {A : Addr → Str → Prop} (vs : List Val) (S : Sto) (Q : VQ) (R : EQ) (hl : vs.length = 2) (h : sp__law_cell.run vs S Q R) : evD { D := D, A := A, er := R } Lt.b__law_cell 4 [] vs S Q := by
  obtain ⟨ns, k, rfl, hk, hQ⟩ := h
  unfold Lt.b__law_cell
  walk_at "li"
  split
  · rename_i hlt
    have hlt : k < ns.length := by omega
    rw [atI_nat (by rw [List.length_map]; exact hlt), List.getElem?_map, List.getElem?_eq_getElem hlt]
    exact hQ _
  · have hkk : k * k < 1000000 := by
      have := Nat.mul_lt_mul'' hk hk
      omega
    have e : (k : Int) * k = ((k * k : Nat) : Int) := by simp
    refine ⟨mulS (a := 20) (b := 20) (by omega) (by omega) (by decide), mulS (a := 20) (b := 20) (by decide) (by omega) (by decide), ?_, by decide, ?_⟩
    · rw [e]
      exact mulS (a := 20) (b := 40) (by decide) (by omega) (by decide)
    · refine forL_inv (fun r σ S' => S' = S ∧ ∃ (ys : List Int) (s : Int) (o : Option Val), r = ys.map Val.int ∧ 0 ≤ s ∧ s < 999999937 ∧ σ = [some (.scr ns), some (.int k), some (.int s), o]) (fun _ _ _ _ => trivial) (fun v r σ S' nx h hn => ?_) (fun σ S' h => ?_) ⟨rfl, ns.take 4, _, none, ?_, Int.emod_nonneg _ (by decide), Int.emod_lt_of_pos _ (by decide), rfl⟩
      · obtain ⟨rfl, ys, s, o, hr, s0, s1, rfl⟩ := h
        cases ys with
        | nil => cases hr
        | cons y ys =>
          rw [List.map_cons] at hr
          injection hr with hv hr
          subst hv
          walk_at "li"
          exact ⟨mulS (a := 30) (b := 20) (by omega) (by decide) (by decide), by decide, hn _ _ ⟨rfl, ys, _, _, hr, Int.emod_nonneg _ (by decide), Int.emod_lt_of_pos _ (by decide), rfl⟩⟩
      · obtain ⟨rfl, ys, s, o, hr, s0, s1, rfl⟩ := h
        walk_at "li"
        exact hQ _
      · have e4 : ∀ l : List Val, cut l none (some 4) = l.take 4 := fun l => by
          unfold cut
          have h0 : HT.sIx l.length 0 (none : Option Int) = 0 := rfl
          have h4 : HT.sIx l.length l.length (some (4 : Int)) = min 4 l.length := by
            unfold HT.sIx
            simp
          rw [h0, h4, List.drop_zero, Nat.sub_zero]
          rcases Nat.le_total 4 l.length with q | q
          · rw [Nat.min_eq_left q]
          · rw [Nat.min_eq_right q, List.take_length, List.take_of_length_le q]
        rw [e4, List.map_take]

/-! ### shares, eyes -/
/-- a share by sixtieths -/
def Sh60 (D : Nat) (x : Rat) : Prop := In1 x ∧ x.den ∣ D
def sp__law_plain_share : ISp := purSp 69 (fun p (_ : Unit) => [.adr p]) (fun _ => True) (fun _ v => ∃ x, v = frV x ∧ Sh60 60 x) fun _ => 1
theorem div60 {t : Int} (h0 : 0 ≤ t) (h1 : t < 61) : Sh60 60 (Rat.divInt t 60) := by
  have f := Fz.mk (D := 60) t 1 (by decide) (by omega)
  have f : Fz 60 1 (Rat.divInt t 60) := f
  refine ⟨⟨Rat.divInt_nonneg h0 (by decide), ?_⟩, f.den_dvd⟩
  rw [Rat.divInt_eq_div]
  have e : (t : Rat) / ((60 : Int) : Rat) * ((60 : Int) : Rat) = t := Rat.div_mul_cancel (by decide)
  refine Rat.le_of_mul_le_mul_right (c := ((60 : Int) : Rat)) ?_ (by decide)
  rw [e]
  have : (t : Rat) ≤ ((60 : Int) : Rat) := Rat.intCast_le_intCast.mpr (by omega)
  grind
theorem hsp__law_plain_share {D : Nat → Li.G} {A : Addr → Str → Prop} (h302 : D 302 = .fn sp__law_pick 2 []) (h303 : D 303 = .fn sp__law_low 2 []) (vs : List Val) (S : Sto) (Q : VQ) (R : EQ) (hl : vs.length = 1) (h : sp__law_plain_share.run vs S Q R) : evD { D := D, A := A, er := R } Lt.b__law_plain_share 1 [] vs S Q := by
  obtain ⟨p, u, n, rfl, hP, h64, -, hQ⟩ := h
  unfold Lt.b__law_plain_share
  walk_at "li"
  rw [h302, h303]
  walk_at "li"
  refine call_pick hP (by omega) (by decide) (by decide) fun t S' t0 t1 hI hP' => ?_
  exact call_low (by decide) (by unfold B2; decide) (hQ _ _ ⟨_, rfl, div60 t0 t1⟩ hI hP')
theorem call_plain {p : Addr} {n : Nat} {S : Sto} {Q : VQ} {er : EQ} (hP : Pur S p n) (h64 : n < 2 ^ 69) (k : ∀ x S', Sh60 60 x → Ins S S' p → Pur S' p (n + 1) → Q (frV x) S') : sp__law_plain_share.run [.adr p] S Q er :=
  ⟨p, (), n, rfl, hP, h64, trivial, fun v S' ⟨x, hv, hx⟩ hI hP' => by
    subst hv
    exact k x S' hx hI hP'⟩
def sp__law_eye : ISp := purSp 68 (fun p (_ : Unit) => [.adr p]) (fun _ => True) (fun _ v => ∃ e, v = eyV e ∧ Eye3 e) fun _ => 4
theorem hsp__law_eye {D : Nat → Li.G} {A : Addr → Str → Prop} (h302 : D 302 = .fn sp__law_pick 2 []) (vs : List Val) (S : Sto) (Q : VQ) (R : EQ) (hl : vs.length = 1) (h : sp__law_eye.run vs S Q R) : evD { D := D, A := A, er := R } Lt.b__law_eye 3 [] vs S Q := by
  obtain ⟨p, u, n, rfl, hP, h64, -, hQ⟩ := h
  unfold Lt.b__law_eye
  walk_at "lt"
  rw [h302]
  walk_at "lt"
  refine call_pick hP (by omega) (by decide) (by decide) fun w S1 w0 w1 hI1 hP1 => ?_
  walk_at "lt"
  refine call_pick hP1 (by omega) (by decide) (by decide) fun a S2 a0 a1 hI2 hP2 => ?_
  walk_at "lt"
  refine call_pick hP2 (by omega) (by decide) (by decide) fun b S3 b0 b1 hI3 hP3 => ?_
  walk_at "lt"
  refine call_pick hP3 (by omega) (by decide) (by decide) fun c S4 c0 c1 hI4 hP4 => ?_
  walk_at "lt"
  have hI := ((hI1.trans hI2).trans hI3).trans hI4
  have ey : ∀ a b c : Int, 1 ≤ a ∧ a ≤ 99 → 1 ≤ b ∧ b ≤ 99 → 1 ≤ c ∧ c ≤ 99 → Q (.tup [.int a, .int b, .int c]) S4 := fun a b c ha hb hc => hQ _ _ ⟨(a, b, c), rfl, ha, hb, hc⟩ hI hP4
  have : w = 0 ∨ w = 1 ∨ w = 2 := by omega
  rcases this with rfl | rfl | rfl
  · exact ey 1 1 1 (by decide) (by decide) (by decide)
  · exact ey 3 6 1 (by decide) (by decide) (by decide)
  · exact ey (1 + a) (1 + b) (1 + c) (by omega) (by omega) (by omega)
/-! ### plain reckoning -/
theorem pzS3 {a b c : Rat} (h : PzS 0 [a, b, c]) : Pz 0 a ∧ Pz (0 + a) b ∧ Pz (0 + a + b) c := ⟨h.1, h.2.1, h.2.2.1⟩
theorem call_plus {x y : Rat} {S : Sto} {Q : VQ} {er : EQ} (h : Pz x y) (hQ : Q (frV (x + y)) S) : sp__law_plus.run [frV x, frV y] S Q er := ⟨(x, y), rfl, h, hQ⟩
theorem call_minus {x y : Rat} {S : Sto} {Q : VQ} {er : EQ} (h : Pz x y) (hQ : Q (frV (x - y)) S) : sp__law_minus.run [frV x, frV y] S Q er := ⟨(x, y), rfl, h, hQ⟩
theorem call_times {x y : Rat} {S : Sto} {Q : VQ} {er : EQ} (h : Pz x y) (hQ : Q (frV (x * y)) S) : sp__law_times.run [frV x, frV y] S Q er := ⟨(x, y), rfl, h, hQ⟩
theorem rsum3 (a b c : Rat) : 0 + a + b + c = rsum [a, b, c] := by
  show 0 + a + b + c = a + (b + (c + 0))
  grind
def sp__law_far : ISp := puSp (fun p : E3 × T3 × T3 => [trV p.2.1, trV p.2.2, eyV p.1]) (fun p => DistOk p.1 p.2.1 p.2.2) fun p => frV (dist p.1 p.2.1 p.2.2)
theorem hsp__law_far {D : Nat → Li.G} {A : Addr → Str → Prop} (h304 : D 304 = .fn sp__law_plus 2 []) (h305 : D 305 = .fn sp__law_minus 2 []) (h306 : D 306 = .fn sp__law_times 2 []) (vs : List Val) (S : Sto) (Q : VQ) (R : EQ) (hl : vs.length = 3) (h : sp__law_far.run vs S Q R) : evD { D := D, A := A, er := R } Lt.b__law_far 6 [] vs S Q := by
  obtain ⟨⟨e, a, b⟩, rfl, ⟨D', M', bd, bm, ⟨a1, a2, a3⟩, ⟨b1, b2, b3⟩, ⟨e1, e2, e3⟩⟩, hQ⟩ := h
  have s1 := sqOk bd bm e1 a1 b1
  have s2 := sqOk bd bm e2 a2 b2
  have s3 := sqOk bd bm e3 a3 b3
  obtain ⟨p1, p2, p3⟩ := pzS3 (sum3Ok bd (((bm.add bm).mul (bm.add bm)).mono (by decide)) s1.f s2.f s3.f)
  unfold Lt.b__law_far eyV trV
  walk_at "lt"
  rw [h304, h305, h306]
  walk_at "lt"
  refine call_minus s1.s ?_
  walk_at "lt"
  refine call_times s1.q ?_
  refine call_times (x := (e.1 : Rat)) s1.w ?_
  refine call_plus (x := 0) p1 ?_
  walk_at "lt"
  refine call_minus s2.s ?_
  walk_at "lt"
  refine call_times s2.q ?_
  refine call_times (x := (e.2.1 : Rat)) s2.w ?_
  refine call_plus p2 ?_
  walk_at "lt"
  refine call_minus s3.s ?_
  walk_at "lt"
  refine call_times s3.q ?_
  refine call_times (x := (e.2.2 : Rat)) s3.w ?_
  refine call_plus p3 ?_
  walk_at "lt"
  rw [rsum3]
  exact hQ
def sp__law_gaps : ISp := sp_gaps
theorem hsp__law_gaps {D : Nat → Li.G} {A : Addr → Str → Prop} (h305 : D 305 = .fn sp__law_minus 2 []) (vs : List Val) (S : Sto) (Q : VQ) (R : EQ) (hl : vs.length = 2) (h : sp__law_gaps.run vs S Q R) : evD { D := D, A := A, er := R } Lt.b__law_gaps 3 [] vs S Q := by
  obtain ⟨⟨a, b⟩, rfl, ⟨p1, p2, p3⟩, hQ⟩ := h
  unfold Lt.b__law_gaps trV
  walk_at "lt"
  rw [h305]
  walk_at "lt"
  refine call_minus p1 ?_
  walk_at "lt"
  refine call_minus p2 ?_
  walk_at "lt"
  refine call_minus p3 ?_
  walk_at "lt"
  exact hQ
def weighF (e : E3) (a b : T3) : Rat := rsum [(e.1 : Rat) * (a.1 * b.1), (e.2.1 : Rat) * (a.2.1 * b.2.1), (e.2.2 : Rat) * (a.2.2 * b.2.2)]
structure WeighOk (e : E3) (a b : T3) : Prop where
  ex : ∃ D M, B2 (D * D * (D * D)) 9000 ∧ B2 M 900 ∧ Fz3 D M a ∧ Fz3 D M b ∧ Eye3 e
def sp__law_weighed : ISp := puSp (fun p : E3 × T3 × T3 => [trV p.2.1, trV p.2.2, eyV p.1]) (fun p => WeighOk p.1 p.2.1 p.2.2) fun p => frV (weighF p.1 p.2.1 p.2.2)
theorem hsp__law_weighed {D : Nat → Li.G} {A : Addr → Str → Prop} (h304 : D 304 = .fn sp__law_plus 2 []) (h306 : D 306 = .fn sp__law_times 2 []) (vs : List Val) (S : Sto) (Q : VQ) (R : EQ) (hl : vs.length = 3) (h : sp__law_weighed.run vs S Q R) : evD { D := D, A := A, er := R } Lt.b__law_weighed 5 [] vs S Q := by
  obtain ⟨⟨e, a, b⟩, rfl, ⟨D', M', bd, bm, ⟨a1, a2, a3⟩, ⟨b1, b2, b3⟩, ⟨e1, e2, e3⟩⟩, hQ⟩ := h
  have b : Bd D' M' := ⟨bd, bm.mono (by decide)⟩
  obtain ⟨q1, w1, f1⟩ := mulOk b e1 a1 b1
  obtain ⟨q2, w2, f2⟩ := mulOk b e2 a2 b2
  obtain ⟨q3, w3, f3⟩ := mulOk b e3 a3 b3
  obtain ⟨p1, p2, p3⟩ := pzS3 (sum3Ok bd ((bm.mul bm).mono (by decide)) f1 f2 f3)
  unfold Lt.b__law_weighed eyV trV
  walk_at "lt"
  rw [h304, h306]
  walk_at "lt"
  refine call_times q1 ?_
  refine call_times (x := (e.1 : Rat)) w1 ?_
  refine call_plus (x := 0) p1 ?_
  walk_at "lt"
  refine call_times q2 ?_
  refine call_times (x := (e.2.1 : Rat)) w2 ?_
  refine call_plus p2 ?_
  walk_at "lt"
  refine call_times q3 ?_
  refine call_times (x := (e.2.2 : Rat)) w3 ?_
  refine call_plus p3 ?_
  walk_at "lt"
  rw [rsum3]
  exact hQ
end Li
set_option Elab.async false
set_option linter.all false
set_option maxRecDepth 100000
set_option maxHeartbeats 2000000
/-! Lw2: lights, parts, what they make. -/
namespace Li
open PySem
local macro_rules | `(tactic| walk_at "li") => `(tactic| simp only [evD, evSs, evS, evE, evEs, evI, evO, evIt, slotQ_0, slotQ_s, cloQ_0, cloQ_s, capQ_nil, capQ_cons, intQ_i, adrQ_a, lstQ_l, tupQ_t, dctQ_d, optQ_s, gvalQ_v, brV_s, asL_l, truV_b, truV_n, truV_i, lenV_t, lenV_s, lenV_l, idxV_t, idxV_s, idxV_l, atI_0, atI_1, atI_2, atI_3, bin_add, bin_sub, bin_mul, bin_div, bin_mod, bin_pow, bin_shl, bin_shr, bin_and, bin_addL, bin_addT, aug_add, aug_sub, aug_mul, cmp_lt, cmp_le, cmp_gt, cmp_ge, cmp_is, cmp_isnt, cmp_eq, cmp_ne, tst_e, wipe_nil, wipe_cons, asg_one, asg_many, asgs_nil, asgs_cons, seqV_t, seqV_s, seqV_l, chkV_t, chkV_l, chkV_s, chkV_a, callG_fn, isCal_fn, isCal_cls, isCalk_fn, callK_fn, frz_nil, puSp_run, bf_len, bf_abs, bf_int, bf_intb, bf_tupT, bf_tupL, bf_listL, bf_listT, bf_min2, bf_max2, bf_isi, slc_l, slc_t, slc_s, fld_i, setB, tabA_hit, isi_tt, isi_ti, isi_ii, isi_it, isi_ib, isi_bi, isi_bb, isi_ss, Cxt.nox, natI_0, natI_1, natI_2, natI_3, natI_4, natI_5, natI_6, natI_7, Bool.not_true, Bool.not_false, decide_true, decide_false, Bool.false_eq_true, if_true, if_false, celQ_set, idxV_set, Sto.set_set, ixN_30, ixN_31, ixN_32, enumV_n, enumV_c, zipV_n, zipV_c, objQ_set, isNon_n, isNon_t, isNon_i, setC_l, dropC_n, dropC_s, dropC_a, cellOf_0, cellOf_s, cellOf_n, frz_cons, frz1_s, frz1_n, sbst_t, sbst_l, sbst_i, sbst_b, sbst_non, sbst_str, sbst_a, sbsts_n, sbsts_c, bin_addLA_set, lenV_set, seqV_set, bf_tupA_set, bmP_app, bmV_app, bf_sum_set, bf_sum_l, asInts_n, asInts_c, Option.map_some, sz_0, sz_1, sz_2, sz_3, sz_4, sz_5, sz_6, sz_7, List.map_cons, List.map_nil, List.length_cons, List.length_nil, List.cons_append, List.nil_append, List.append_nil, List.drop_nil, List.set_cons_zero, List.set_cons_succ, List.replicate_succ, List.replicate_zero, Nat.reduceSub, Nat.reduceAdd, decide_eq_true_eq, true_and, and_true])
local macro_rules | `(tactic| walk_at "lc") => `(tactic| simp only [evD, evSs, evS, evE, evEs, evI, evO, evIt, slotQ_0, slotQ_s, cloQ_0, cloQ_s, capQ_nil, capQ_cons, intQ_i, adrQ_a, lstQ_l, tupQ_t, dctQ_d, optQ_s, gvalQ_v, brV_s, asL_l, truV_b, truV_n, truV_i, lenV_t, lenV_s, lenV_l, idxV_t, idxV_s, idxV_l, atI_0, atI_1, atI_2, atI_3, bin_add, bin_sub, bin_mul, bin_div, bin_mod, bin_pow, bin_shl, bin_shr, bin_and, bin_addL, bin_addT, aug_add, aug_sub, aug_mul, cmp_lt, cmp_le, cmp_gt, cmp_ge, cmp_is, cmp_isnt, cmp_eq, cmp_ne, tst_e, wipe_nil, wipe_cons, asg_one, asg_many, asgs_nil, asgs_cons, seqV_t, seqV_s, seqV_l, chkV_t, chkV_l, chkV_s, chkV_a, callG_fn, isCal_fn, isCal_cls, isCalk_fn, callK_fn, frz_nil, puSp_run, bf_len, bf_abs, bf_int, bf_intb, bf_tupT, bf_tupL, bf_listL, bf_listT, bf_min2, bf_max2, bf_isi, slc_l, slc_t, slc_s, fld_i, setB, tabA_hit, isi_tt, isi_ti, isi_ii, isi_it, isi_ib, isi_bi, isi_bb, isi_ss, Cxt.nox, natI_0, natI_1, natI_2, natI_3, natI_4, natI_5, natI_6, natI_7, Bool.not_true, Bool.not_false, decide_true, decide_false, Bool.false_eq_true, if_true, if_false, celQ_set, idxV_set, Sto.set_set, ixN_30, ixN_31, ixN_32, enumV_n, enumV_c, zipV_n, zipV_c, objQ_set, isNon_n, isNon_t, isNon_i, setC_l, dropC_n, dropC_s, dropC_a, cellOf_0, cellOf_s, cellOf_n, frz_cons, frz1_s, frz1_n, sbst_t, sbst_l, sbst_i, sbst_b, sbst_non, sbst_str, sbst_a, sbsts_n, sbsts_c, bin_addLA_set, lenV_set, seqV_set, bf_tupA_set, bmP_app, bmV_app, bf_sum_set, bf_sum_l, asInts_n, asInts_c, Option.map_some, sz_0, sz_1, sz_2, sz_3, sz_4, sz_5, sz_6, sz_7, List.map_cons, List.map_nil, List.length_cons, List.length_nil, List.cons_append, List.nil_append, List.append_nil, List.drop_nil, List.set_cons_zero, List.set_cons_succ, List.replicate_succ, List.replicate_zero, Nat.reduceSub, Nat.reduceAdd, decide_eq_true_eq, true_and, and_true, cut1_h0, cut1_l1, cut2_h0, cut2_h1, cut2_l1, cut2_l2, cut3_h0, cut3_h1, cut3_h2, cut3_l1, cut3_l2, cut3_l3, cut4_l1, Int.reduceAdd, Int.reduceSub, Int.reduceMod, Int.reduceNeg, compL_cons, compL_nil, forL_cons, forL_nil, rng0, rng1n, rng2, rng3, r62_0, r62_1, r62_2, r62_3, szl_0, szl_1, szl_2, szl_3, szl_4, szl_5, szl_6, szl_7])
local macro_rules | `(tactic| walk_at "lt") => `(tactic| try simp only [evD, evSs, evS, evE, evEs, evI, evO, evIt, slotQ_0, slotQ_s, cloQ_0, cloQ_s, capQ_nil, capQ_cons, intQ_i, adrQ_a, lstQ_l, tupQ_t, dctQ_d, optQ_s, gvalQ_v, brV_s, asL_l, truV_b, truV_n, truV_i, lenV_t, lenV_s, lenV_l, idxV_t, idxV_s, idxV_l, atI_0, atI_1, atI_2, atI_3, bin_add, bin_sub, bin_mul, bin_div, bin_mod, bin_pow, bin_shl, bin_shr, bin_and, bin_addL, bin_addT, aug_add, aug_sub, aug_mul, cmp_lt, cmp_le, cmp_gt, cmp_ge, cmp_is, cmp_isnt, cmp_eq, cmp_ne, tst_e, wipe_nil, wipe_cons, asg_one, asg_many, asgs_nil, asgs_cons, seqV_t, seqV_s, seqV_l, chkV_t, chkV_l, chkV_s, chkV_a, callG_fn, isCal_fn, isCal_cls, isCalk_fn, callK_fn, frz_nil, puSp_run, bf_len, bf_abs, bf_int, bf_intb, bf_tupT, bf_tupL, bf_listL, bf_listT, bf_min2, bf_max2, bf_isi, slc_l, slc_t, slc_s, fld_i, setB, tabA_hit, isi_tt, isi_ti, isi_ii, isi_it, isi_ib, isi_bi, isi_bb, isi_ss, Cxt.nox, natI_0, natI_1, natI_2, natI_3, natI_4, natI_5, natI_6, natI_7, Bool.not_true, Bool.not_false, decide_true, decide_false, Bool.false_eq_true, if_true, if_false, celQ_set, idxV_set, Sto.set_set, ixN_30, ixN_31, ixN_32, enumV_n, enumV_c, zipV_n, zipV_c, objQ_set, isNon_n, isNon_t, isNon_i, setC_l, dropC_n, dropC_s, dropC_a, cellOf_0, cellOf_s, cellOf_n, frz_cons, frz1_s, frz1_n, sbst_t, sbst_l, sbst_i, sbst_b, sbst_non, sbst_str, sbst_a, sbsts_n, sbsts_c, bin_addLA_set, lenV_set, seqV_set, bf_tupA_set, bmP_app, bmV_app, bf_sum_set, bf_sum_l, asInts_n, asInts_c, Option.map_some, sz_0, sz_1, sz_2, sz_3, sz_4, sz_5, sz_6, sz_7, List.map_cons, List.map_nil, List.length_cons, List.length_nil, List.cons_append, List.nil_append, List.append_nil, List.drop_nil, List.set_cons_zero, List.set_cons_succ, List.replicate_succ, List.replicate_zero, Nat.reduceSub, Nat.reduceAdd, decide_eq_true_eq, true_and, and_true, cut1_h0, cut1_l1, cut2_h0, cut2_h1, cut2_l1, cut2_l2, cut3_h0, cut3_h1, cut3_h2, cut3_l1, cut3_l2, cut3_l3, cut4_l1, Int.reduceAdd, Int.reduceSub, Int.reduceMod, Int.reduceNeg, compL_cons, compL_nil, forL_cons, forL_nil, rng0, rng1n, rng2, rng3, r62_0, r62_1, r62_2, r62_3, szl_0, szl_1, szl_2, szl_3, szl_4, szl_5, szl_6, szl_7])
/-! ### rows of lights -/
def Row120 (t : T3) : Prop := In3 t ∧ ∀ k, (comp3 k t).den ∣ 120
theorem row_60 {a b c : Rat} (ha : Sh60 60 a) (hb : Sh60 60 b) (hc : Sh60 60 c) : Row120 (a, b, c) := ⟨⟨ha.1, hb.1, hc.1⟩, fun k => by
  have d : ∀ x, Sh60 60 x → x.den ∣ 120 := fun x hx => Nat.dvd_trans hx.2 (by decide)
  unfold comp3
  split
  · exact d _ ha
  · exact d _ hb
  · exact d _ hc⟩
theorem half_sh {a b : Rat} (ha : Sh60 60 a) (hb : Sh60 60 b) : In1 (1 / 2 * (a + b)) ∧ (1 / 2 * (a + b)).den ∣ 120 := by
  obtain ⟨⟨a0, a1⟩, da⟩ := ha
  obtain ⟨⟨b0, b1⟩, db⟩ := hb
  refine ⟨⟨?_, ?_⟩, ?_⟩
  · have h : (0 : Rat) ≤ 1 / 2 := by grind
    exact Rat.mul_nonneg h (Rat.add_nonneg a0 b0)
  · grind
  · have fa := fz_of (D := 60) (by decide) ⟨a0, a1⟩ da
    have fb := fz_of (D := 60) (by decide) ⟨b0, b1⟩ db
    have fh : Fz 2 1 (1 / 2 : Rat) := by
      have := Fz.mk (D := 2) 1 1 (by decide) (by decide)
      have e : Rat.divInt 1 (2 : Nat) = 1 / 2 := by
        rw [Rat.divInt_eq_div]
        rfl
      rw [e] at this
      exact this
    exact (fh.mul (fa.add fb)).den_dvd
theorem pz60 {x y : Rat} (hx : Sh60 60 x) (hy : Sh60 60 y) : Pz x y := (fz_of (by decide) hx.1 hx.2).pz (fz_of (by decide) hy.1 hy.2) (B2.mono (a := 13) (by unfold B2; decide) (by decide)) (B2.mono (a := 13) (by unfold B2; decide) (by decide)) (B2.mono (a := 13) (by unfold B2; decide) (by decide))
theorem pzh {x y : Rat} (hx : Sh60 60 x) (hy : Sh60 60 y) : Pz (1 / 2) (x + y) := by
  have fa := fz_of (D := 60) (by decide) hx.1 hx.2
  have fb := fz_of (D := 60) (by decide) hy.1 hy.2
  have fh : Fz 2 1 (1 / 2 : Rat) := by
    have := Fz.mk (D := 2) 1 1 (by decide) (by decide)
    have e : Rat.divInt 1 (2 : Nat) = 1 / 2 := by
      rw [Rat.divInt_eq_div]
      rfl
    rw [e] at this
    exact this
  exact fh.pz (fa.add fb) (B2.mono (a := 13) (by unfold B2; decide) (by decide)) (B2.mono (a := 13) (by unfold B2; decide) (by decide)) (B2.mono (a := 13) (by unfold B2; decide) (by decide))
def Row60 (t : T3) : Prop := Sh60 60 t.1 ∧ Sh60 60 t.2.1 ∧ Sh60 60 t.2.2
def sp__law_lights : ISp := purSp 67 (fun p (m : Nat) => [.adr p, .int m]) (fun m => 1 ≤ m ∧ m ≤ 5) (fun m v => ∃ rows : List T3, v = .lst (rows.map trV) ∧ rows.length = m ∧ ∀ t ∈ rows, Row120 t) fun _ => 20
theorem sbst_fr {a : Addr} {w : Val} {x : Rat} : sbst a w (frV x) = frV x := by
  unfold frV
  rw [sbst_t, sbsts_c, sbsts_c, sbsts_n, sbst_i, sbst_i]
theorem sbst_tr {a : Addr} {w : Val} {x : T3} : sbst a w (trV x) = trV x := by
  unfold trV
  rw [sbst_t, sbsts_c, sbsts_c, sbsts_c, sbsts_n, sbst_fr, sbst_fr, sbst_fr]
theorem hsp__law_lights {D : Nat → Li.G} {A : Addr → Str → Prop} (h302 : D 302 = .fn sp__law_pick 2 []) (h304 : D 304 = .fn sp__law_plus 2 []) (h306 : D 306 = .fn sp__law_times 2 []) (h308 : D 308 = .fn sp__law_plain_share 1 []) (vs : List Val) (S : Sto) (Q : VQ) (R : EQ) (hl : vs.length = 2) (h : sp__law_lights.run vs S Q R) : evD { D := D, A := A, er := R } Lt.b__law_lights 7 [3] vs S Q := by
  obtain ⟨p, m, n, rfl, hP, h64, ⟨hm1, hm5⟩, hQ⟩ := h
  unfold Lt.b__law_lights
  walk_at "li"
  rw [h302, h304, h306, h308]
  walk_at "li"
  refine call_pick hP (by omega) (by decide) (by decide) fun w S1 w0 w1 hI1 hP1 => ?_
  walk_at "li"
  refine ⟨⟨by omega, by omega⟩, ?_⟩
  rw [show (m : Int).toNat = m by simp]
  refine compL_inv2 (fun r acc S' => ∃ rows : List T3, acc = rows.map trV ∧ (∀ t ∈ rows, Row60 t) ∧ rows.length + r.length = m ∧ Ins S S' p ∧ Pur S' p (n + 1 + 3 * rows.length)) (fun r acc S' h => ?_) (fun v r acc S' k h hk _ => ?_) (fun acc S' h => ?_) ⟨[], rfl, (fun _ h => nomatch h), (by rw [rngV_range]; simp), hI1, hP1⟩
  · obtain ⟨rows, rfl, _, hlen, _⟩ := h
    exact ⟨trivial, by rw [List.length_map]; exact szn (by omega)⟩
  · obtain ⟨rows, rfl, hr, hlen, hI, hP'⟩ := h
    rw [List.length_cons] at hlen
    rw [rng3]
    simp only [compL_cons, compL_nil]
    walk_at "li"
    refine ⟨by decide, call_plain hP' (by omega) fun x S2 hx hI2 hP2 => ⟨by decide, call_plain hP2 (by omega) fun y S3 hy hI3 hP3 => ⟨by decide, call_plain hP3 (by omega) fun z S4 hz hI4 hP4 => ⟨by decide, ?_⟩⟩⟩⟩
    refine hk _ _ ⟨rows ++ [(x, y, z)], by rw [List.map_append]; rfl, fun t ht => ?_, by rw [List.length_append]; simp; omega, ((hI.trans hI2).trans hI3).trans hI4, hP4.up (by rw [List.length_append]; simp; omega)⟩
    rcases List.mem_append.mp ht with ht | ht
    · exact hr t ht
    · rw [List.mem_singleton.mp ht]
      exact ⟨hx, hy, hz⟩
  · obtain ⟨rows, rfl, hr, hlen, hI, hP'⟩ := h
    rw [List.length_nil, Nat.add_zero] at hlen
    intro a ha
    have hap := hP'.ne ha
    have r120 : ∀ t, Row60 t → Row120 t := fun t ⟨h1, h2, h3⟩ => row_60 h1 h2 h3
    have back : ∀ (rows' : List T3) (b : Addr), rows'.length = m → (∀ t ∈ rows', Row120 t) → (S'.set a (.lst (rows.map trV))) b = none → Q (.lst (rows'.map trV)) (((dropC [some (.adr a), none, none, none] (S'.set a (.lst (rows.map trV))) 0).set b (.lst (rows'.map trV))).del b) := fun rows' b hl' hr' hb => by
      have hba : b ≠ a := fun z => by
        rw [z, Sto.set_same] at hb
        cases hb
      rw [Sto.set_ne hba] at hb
      rw [dropC_a, Sto.set_del ha, Sto.set_del hb]
      exact hQ _ _ ⟨rows', rfl, hl', hr'⟩ hI (hP'.up (by dsimp only; omega))
    by_cases h1 : w = 1
    · subst h1
      rw [if_pos rfl]
      refine compL_mapA (f := fun t : T3 => trV (t.1, t.1, t.1)) rfl (by rw [List.length_nil]; exact szn (by omega)) (fun t ht k hk => ?_) ?_
      · unfold trV
        walk_at "lt"
        exact hk
      · intro b hb
        rw [if_neg (by decide), if_neg (by decide), if_neg (by decide), List.nil_append]
        have := back (rows.map fun t => (t.1, t.1, t.1)) b (by rw [List.length_map]; exact hlen) (fun t ht => by
          obtain ⟨u, hu, rfl⟩ := List.mem_map.mp ht
          exact row_60 (hr u hu).1 (hr u hu).1 (hr u hu).1) hb
        rw [List.map_map] at this
        exact this
    · rw [if_neg h1]
      by_cases h2 : w = 2
      · subst h2
        rw [if_pos rfl]
        refine compL_mapA (f := fun t : T3 => trV (t.1, t.2.1, 1 / 2 * (t.1 + t.2.1))) rfl (by rw [List.length_nil]; exact szn (by omega)) (fun t ht k hk => ?_) ?_
        · unfold trV
          walk_at "lt"
          refine call_plus (pz60 (hr t ht).1 (hr t ht).2.1) ?_
          rw [← frV_half]
          exact call_times (pzh (hr t ht).1 (hr t ht).2.1) hk
        · intro b hb
          rw [if_neg (by decide), if_neg (by decide), List.nil_append]
          have := back (rows.map fun t => (t.1, t.2.1, 1 / 2 * (t.1 + t.2.1))) b (by rw [List.length_map]; exact hlen) (fun t ht => by
            obtain ⟨u, hu, rfl⟩ := List.mem_map.mp ht
            obtain ⟨q1, q2, q3⟩ := hr u hu
            obtain ⟨z1, z2⟩ := half_sh q1 q2
            obtain ⟨⟨y1, y2, _⟩, yd⟩ := row_60 q1 q2 q3
            refine ⟨⟨y1, y2, z1⟩, fun k => ?_⟩
            match k with
            | 0 => exact yd 0
            | 1 => exact yd 1
            | k + 2 => exact z2) hb
          rw [List.map_map] at this
          exact this
      · rw [if_neg h2]
        have plain : Q (.lst (rows.map trV)) ((S'.set a (.lst (rows.map trV))).del a) := by
          rw [Sto.set_del ha]
          exact hQ _ _ ⟨rows, rfl, hlen, fun t ht => r120 t (hr t ht)⟩ hI (hP'.up (by dsimp only; omega))
        by_cases h3 : w = 3
        · subst h3
          rw [if_pos rfl]
          by_cases hm : 1 < (m : Int)
          · rw [if_pos hm]
            refine call_pick (hP'.set hap) (by omega) (by omega) (by omega) fun t S3 t0 t1 hI3 hP3 => ?_
            have hS3 : S3 a = some (.lst (rows.map trV)) := (hI3 a hap).trans Sto.set_same
            obtain ⟨j, rfl⟩ : ∃ j : Nat, t = (j : Int) := ⟨t.toNat, by omega⟩
            have hj : j < rows.length := by omega
            rw [idxV_a hS3, atI_nat (by rw [List.length_map]; exact hj), List.getElem?_map, List.getElem?_eq_getElem hj]
            have ei : L2.ixN (rows.map trV).length ((m : Int) - 1) = some (m - 1) := by
              unfold L2.ixN
              rw [List.length_map, if_pos (by omega), if_pos (by omega)]
              congr 1
              omega
            have es : (rows.map trV).set (m - 1) (trV rows[j]) = (rows.set (m - 1) rows[j]).map trV := List.map_set.symm
            have hSS : ((S3.set a (.lst ((rows.set (m - 1) rows[j]).map trV))).del a) = S3.del a := by
              funext x
              by_cases e : x = a
              · rw [e, Sto.del_same, Sto.del_same]
              · rw [Sto.del_ne e, Sto.del_ne e, Sto.set_ne e]
            have go : Q (.lst ((rows.set (m - 1) rows[j]).map trV)) (S3.del a) := hQ _ _ ⟨_, rfl, by rw [List.length_set]; exact hlen, fun t ht => by
              rcases List.mem_or_eq_of_mem_set ht with ht | rfl
              · exact r120 _ (hr t ht)
              · exact r120 _ (hr _ (List.getElem_mem _))⟩ (hI.cell ha hap hI3) ((hP3.del hap).up (by dsimp only; omega))
            rw [Option.map_some, optQ_s, celQ_h hS3, ei, optQ_s, es, hSS]
            exact go
          · rw [if_neg hm]
            exact plain
        · rw [if_neg h3, if_neg h3]
          exact plain
/-! ### parts -/
def sp__law_parts : ISp := purSp 67 (fun p (m : Nat) => [.adr p, .int m]) (fun m => 1 ≤ m ∧ m ≤ 5) (fun m v => ∃ (ps : List Rat) (N : Nat), v = .lst (ps.map frV) ∧ ps.length = m ∧ 0 < N ∧ N ≤ 61 ∧ (∀ x ∈ ps, 0 ≤ x ∧ Fz N 1 x) ∧ rsum ps = 1) fun _ => 10
theorem ints_sum {N : Nat} (hN : 0 < N) : ∀ (ts : List Int), rsum (ts.map fun t => Rat.divInt t N) * (N : Rat) = ((ts.sum : Int) : Rat)
  | [] => by
    show (0 : Rat) * _ = ((0 : Int) : Rat)
    grind
  | t :: r => by
    have ne : (N : Rat) ≠ 0 := Rat.ne_of_gt (Rat.natCast_pos.mpr hN)
    have e : Rat.divInt t N * (N : Rat) = t := by
      rw [Rat.divInt_eq_div, Rat.intCast_natCast]
      exact Rat.div_mul_cancel ne
    show (Rat.divInt t N + rsum (r.map fun t => Rat.divInt t N)) * (N : Rat) = _
    rw [Rat.add_mul, e, ints_sum hN r, List.sum_cons, Rat.intCast_add]
theorem sum_bound {w : Int} : ∀ {ts : List Int}, (∀ t ∈ ts, 0 ≤ t ∧ t ≤ w) → 0 ≤ ts.sum ∧ ts.sum ≤ ts.length * w ∧ ∀ t ∈ ts, t ≤ ts.sum
  | [], _ => ⟨by simp, by simp, fun _ h => nomatch h⟩
  | t :: r, h => by
    obtain ⟨h1, h2, h3⟩ := sum_bound (w := w) (ts := r) fun u hu => h u (List.mem_cons_of_mem _ hu)
    obtain ⟨t0, t1⟩ := h t List.mem_cons_self
    rw [List.sum_cons, List.length_cons]
    refine ⟨by omega, ?_, fun u hu => ?_⟩
    · have : (((r.length + 1 : Nat) : Int)) * w = r.length * w + w := by
        rw [Int.natCast_add, Int.add_mul]
        simp
      omega
    · rcases List.mem_cons.mp hu with rfl | hu
      · omega
      · have := h3 u hu
        omega
theorem sum_set : ∀ (ts : List Int) (j : Nat) (hj : j < ts.length), (ts.set j (ts[j] + 1)).sum = ts.sum + 1
  | t :: r, 0, _ => by
    show t + 1 + r.sum = t + r.sum + 1
    omega
  | t :: r, j + 1, hj => by
    have := sum_set r j (by simpa using hj)
    show t + (r.set j (r[j]'(by simpa using hj) + 1)).sum = t + r.sum + 1
    omega
theorem hsp__law_parts {D : Nat → Li.G} {A : Addr → Str → Prop} (h302 : D 302 = .fn sp__law_pick 2 []) (h303 : D 303 = .fn sp__law_low 2 []) (vs : List Val) (S : Sto) (Q : VQ) (R : EQ) (hl : vs.length = 2) (h : sp__law_parts.run vs S Q R) : evD { D := D, A := A, er := R } Lt.b__law_parts 6 [3] vs S Q := by
  obtain ⟨p, m, n, rfl, hP, h64, ⟨hm1, hm5⟩, hQ⟩ := h
  unfold Lt.b__law_parts
  walk_at "li"
  rw [h302, h303]
  walk_at "li"
  refine call_pick hP (by omega) (by decide) (by decide) fun w S1 w0 w1 hI1 hP1 => ?_
  have hw : ∃ W : Int, L2.atI [Val.int 2, .int 5, .int 12] w = some (.int W) ∧ 0 < W ∧ W ≤ 12 := by
    have : w = 0 ∨ w = 1 ∨ w = 2 := by omega
    rcases this with rfl | rfl | rfl
    · exact ⟨2, rfl, by decide, by decide⟩
    · exact ⟨5, rfl, by decide, by decide⟩
    · exact ⟨12, rfl, by decide, by decide⟩
  obtain ⟨W, eW, W0, W12⟩ := hw
  walk_at "li"
  rw [eW]
  walk_at "li"
  refine ⟨⟨by omega, by omega⟩, ?_⟩
  rw [show (m : Int).toNat = m by simp]
  refine compL_inv2 (fun r acc S' => ∃ ts : List Int, acc = ts.map Val.int ∧ (∀ t ∈ ts, 0 ≤ t ∧ t ≤ 11) ∧ ts.length + r.length = m ∧ Ins S S' p ∧ Pur S' p (n + 1 + ts.length)) (fun r acc S' h => ?_) (fun v r acc S' k h hk _ => ?_) (fun acc S' h => ?_) ⟨[], rfl, (fun _ h => nomatch h), (by rw [rngV_range]; simp), hI1, hP1⟩
  · obtain ⟨ts, rfl, _, hlen, _⟩ := h
    exact ⟨trivial, by rw [List.length_map]; exact szn (by omega)⟩
  · obtain ⟨ts, rfl, hr, hlen, hI, hP'⟩ := h
    rw [List.length_cons] at hlen
    refine call_pick hP' (by omega) W0 (by omega) fun t S2 t0 t1 hI2 hP2 => ?_
    refine hk _ _ ⟨ts ++ [t], by rw [List.map_append]; rfl, fun u hu => ?_, by rw [List.length_append]; simp; omega, hI.trans hI2, hP2.up (by rw [List.length_append]; simp; omega)⟩
    rcases List.mem_append.mp hu with hu | hu
    · exact hr u hu
    · rw [List.mem_singleton.mp hu]
      omega
  · obtain ⟨ts, rfl, hr, hlen, hI, hP'⟩ := h
    rw [List.length_nil, Nat.add_zero] at hlen
    intro a ha
    have hap := hP'.ne ha
    refine call_pick (hP'.set hap) (by omega) (by omega) (by omega) fun t S3 t0 t1 hI3 hP3 => ?_
    have hS3 : S3 a = some (.lst (ts.map Val.int)) := (hI3 a hap).trans Sto.set_same
    obtain ⟨j, rfl⟩ : ∃ j : Nat, t = (j : Int) := ⟨t.toNat, by omega⟩
    have hj : j < ts.length := by omega
    walk_at "li"
    rw [celQ_h hS3]
    have ei : L2.ixN (ts.map Val.int).length (j : Int) = some j := by
      unfold L2.ixN
      rw [List.length_map, if_pos (by omega), if_pos (by omega)]
      simp
    rw [ei]
    walk_at "li"
    rw [List.getElem?_map, List.getElem?_eq_getElem hj]
    walk_at "li"
    rw [celQ_h hS3]
    refine ⟨rfl, ?_⟩
    have es : (ts.map Val.int).set j (.int (ts[j] + 1)) = (ts.set j (ts[j] + 1)).map Val.int := List.map_set.symm
    rw [es]
    have hsum := sum_set ts j hj
    have hlen2 : (ts.set j (ts[j] + 1)).length = m := by rw [List.length_set]; exact hlen
    have hnn : ∀ t ∈ ts.set j (ts[j] + 1), 0 ≤ t ∧ t ≤ 12 := fun t ht => by
      rcases List.mem_or_eq_of_mem_set ht with ht | rfl
      · have := hr t ht
        omega
      · have := hr _ (List.getElem_mem hj)
        omega
    obtain ⟨s0, s1, _⟩ := sum_bound hr
    obtain ⟨_, _, s2⟩ := sum_bound hnn
    generalize ts.set j (ts[j] + 1) = us at *
    rw [hsum] at s2
    have hN : ∃ N : Nat, (ts.sum + 1) = (N : Int) ∧ 0 < N ∧ N ≤ 61 := by
      have : (ts.length : Int) * 11 ≤ 5 * 11 := by
        have : (ts.length : Int) ≤ 5 := by omega
        omega
      exact ⟨(ts.sum + 1).toNat, by omega, by omega, by omega⟩
    obtain ⟨N, eN, N0, N61⟩ := hN
    rw [eN] at hsum s2
    walk_at "lt"
    refine compL_mapA (f := fun t : Int => frV (Rat.divInt t N)) rfl (by rw [List.length_nil]; exact szn (by omega)) (fun t ht k hk => ?_) ?_
    · rw [bf_sum_set, asInts_map, optQ_s, hsum]
      exact call_low (by omega) (B2.mono (a := 6) (by unfold B2; omega) (by decide)) hk
    · rw [List.nil_append, cellOf_h Sto.set_same]
      have ev : sbsts a (.lst (us.map Val.int)) (us.map fun t : Int => frV (Rat.divInt t N)) = us.map fun t : Int => frV (Rat.divInt t N) := sbsts_map fun _ => sbst_fr
      rw [frz1_s]
      show Q (sbst a _ (.lst _)) _
      rw [sbst_l, ev]
      have hSS : (S3.set a (.lst (us.map Val.int))).del a = S3.del a := by
        funext x
        by_cases e : x = a
        · rw [e, Sto.del_same, Sto.del_same]
        · rw [Sto.del_ne e, Sto.del_ne e, Sto.set_ne e]
      show Q (.lst (us.map fun t : Int => frV (Rat.divInt t N))) ((S3.set a (.lst (us.map Val.int))).del a)
      rw [hSS]
      refine hQ _ _ ⟨us.map fun t => Rat.divInt t N, N, by rw [List.map_map]; rfl, by rw [List.length_map]; exact hlen2, N0, N61, fun x hx => ?_, ?_⟩ (hI.cell ha hap hI3) ((hP3.del hap).up (by dsimp only; omega))
      · obtain ⟨t, ht, rfl⟩ := List.mem_map.mp hx
        have h1 := hnn t ht
        have h2 := s2 t ht
        exact ⟨Rat.divInt_nonneg h1.1 (by omega), Fz.mk t 1 N0 (by omega)⟩
      · have h1 := ints_sum N0 us
        rw [hsum] at h1
        have ne : (N : Rat) ≠ 0 := Rat.ne_of_gt (Rat.natCast_pos.mpr N0)
        have e1 : (((N : Nat) : Int) : Rat) = (N : Rat) := Rat.intCast_natCast N
        rw [e1] at h1
        have h2 : (rsum (us.map fun t => Rat.divInt t N) - 1) * (N : Rat) = 0 := by grind
        have h3 := (Rat.mul_eq_zero.mp h2).resolve_right ne
        grind
end Li
set_option Elab.async false
set_option linter.all false
set_option maxRecDepth 100000
set_option maxHeartbeats 2000000
/-! Lw3: what parts make, the wish. -/
namespace Li
open PySem
local macro_rules | `(tactic| walk_at "li") => `(tactic| simp only [evD, evSs, evS, evE, evEs, evI, evO, evIt, slotQ_0, slotQ_s, cloQ_0, cloQ_s, capQ_nil, capQ_cons, intQ_i, adrQ_a, lstQ_l, tupQ_t, dctQ_d, optQ_s, gvalQ_v, brV_s, asL_l, truV_b, truV_n, truV_i, lenV_t, lenV_s, lenV_l, idxV_t, idxV_s, idxV_l, atI_0, atI_1, atI_2, atI_3, bin_add, bin_sub, bin_mul, bin_div, bin_mod, bin_pow, bin_shl, bin_shr, bin_and, bin_addL, bin_addT, aug_add, aug_sub, aug_mul, cmp_lt, cmp_le, cmp_gt, cmp_ge, cmp_is, cmp_isnt, cmp_eq, cmp_ne, tst_e, wipe_nil, wipe_cons, asg_one, asg_many, asgs_nil, asgs_cons, seqV_t, seqV_s, seqV_l, chkV_t, chkV_l, chkV_s, chkV_a, callG_fn, isCal_fn, isCal_cls, isCalk_fn, callK_fn, frz_nil, puSp_run, bf_len, bf_abs, bf_int, bf_intb, bf_tupT, bf_tupL, bf_listL, bf_listT, bf_min2, bf_max2, bf_isi, slc_l, slc_t, slc_s, fld_i, setB, tabA_hit, isi_tt, isi_ti, isi_ii, isi_it, isi_ib, isi_bi, isi_bb, isi_ss, Cxt.nox, natI_0, natI_1, natI_2, natI_3, natI_4, natI_5, natI_6, natI_7, Bool.not_true, Bool.not_false, decide_true, decide_false, Bool.false_eq_true, if_true, if_false, celQ_set, idxV_set, Sto.set_set, ixN_30, ixN_31, ixN_32, enumV_n, enumV_c, zipV_n, zipV_c, objQ_set, isNon_n, isNon_t, isNon_i, setC_l, dropC_n, dropC_s, dropC_a, cellOf_0, cellOf_s, cellOf_n, frz_cons, frz1_s, frz1_n, sbst_t, sbst_l, sbst_i, sbst_b, sbst_non, sbst_str, sbst_a, sbsts_n, sbsts_c, bin_addLA_set, lenV_set, seqV_set, bf_tupA_set, bmP_app, bmV_app, bf_sum_set, bf_sum_l, asInts_n, asInts_c, Option.map_some, sz_0, sz_1, sz_2, sz_3, sz_4, sz_5, sz_6, sz_7, List.map_cons, List.map_nil, List.length_cons, List.length_nil, List.cons_append, List.nil_append, List.append_nil, List.drop_nil, List.set_cons_zero, List.set_cons_succ, List.replicate_succ, List.replicate_zero, Nat.reduceSub, Nat.reduceAdd, decide_eq_true_eq, true_and, and_true])
local macro_rules | `(tactic| walk_at "lc") => `(tactic| simp only [evD, evSs, evS, evE, evEs, evI, evO, evIt, slotQ_0, slotQ_s, cloQ_0, cloQ_s, capQ_nil, capQ_cons, intQ_i, adrQ_a, lstQ_l, tupQ_t, dctQ_d, optQ_s, gvalQ_v, brV_s, asL_l, truV_b, truV_n, truV_i, lenV_t, lenV_s, lenV_l, idxV_t, idxV_s, idxV_l, atI_0, atI_1, atI_2, atI_3, bin_add, bin_sub, bin_mul, bin_div, bin_mod, bin_pow, bin_shl, bin_shr, bin_and, bin_addL, bin_addT, aug_add, aug_sub, aug_mul, cmp_lt, cmp_le, cmp_gt, cmp_ge, cmp_is, cmp_isnt, cmp_eq, cmp_ne, tst_e, wipe_nil, wipe_cons, asg_one, asg_many, asgs_nil, asgs_cons, seqV_t, seqV_s, seqV_l, chkV_t, chkV_l, chkV_s, chkV_a, callG_fn, isCal_fn, isCal_cls, isCalk_fn, callK_fn, frz_nil, puSp_run, bf_len, bf_abs, bf_int, bf_intb, bf_tupT, bf_tupL, bf_listL, bf_listT, bf_min2, bf_max2, bf_isi, slc_l, slc_t, slc_s, fld_i, setB, tabA_hit, isi_tt, isi_ti, isi_ii, isi_it, isi_ib, isi_bi, isi_bb, isi_ss, Cxt.nox, natI_0, natI_1, natI_2, natI_3, natI_4, natI_5, natI_6, natI_7, Bool.not_true, Bool.not_false, decide_true, decide_false, Bool.false_eq_true, if_true, if_false, celQ_set, idxV_set, Sto.set_set, ixN_30, ixN_31, ixN_32, enumV_n, enumV_c, zipV_n, zipV_c, objQ_set, isNon_n, isNon_t, isNon_i, setC_l, dropC_n, dropC_s, dropC_a, cellOf_0, cellOf_s, cellOf_n, frz_cons, frz1_s, frz1_n, sbst_t, sbst_l, sbst_i, sbst_b, sbst_non, sbst_str, sbst_a, sbsts_n, sbsts_c, bin_addLA_set, lenV_set, seqV_set, bf_tupA_set, bmP_app, bmV_app, bf_sum_set, bf_sum_l, asInts_n, asInts_c, Option.map_some, sz_0, sz_1, sz_2, sz_3, sz_4, sz_5, sz_6, sz_7, List.map_cons, List.map_nil, List.length_cons, List.length_nil, List.cons_append, List.nil_append, List.append_nil, List.drop_nil, List.set_cons_zero, List.set_cons_succ, List.replicate_succ, List.replicate_zero, Nat.reduceSub, Nat.reduceAdd, decide_eq_true_eq, true_and, and_true, cut1_h0, cut1_l1, cut2_h0, cut2_h1, cut2_l1, cut2_l2, cut3_h0, cut3_h1, cut3_h2, cut3_l1, cut3_l2, cut3_l3, cut4_l1, Int.reduceAdd, Int.reduceSub, Int.reduceMod, Int.reduceNeg, compL_cons, compL_nil, forL_cons, forL_nil, rng0, rng1n, rng2, rng3, r62_0, r62_1, r62_2, r62_3, szl_0, szl_1, szl_2, szl_3, szl_4, szl_5, szl_6, szl_7])
local macro_rules | `(tactic| walk_at "lt") => `(tactic| try simp only [evD, evSs, evS, evE, evEs, evI, evO, evIt, slotQ_0, slotQ_s, cloQ_0, cloQ_s, capQ_nil, capQ_cons, intQ_i, adrQ_a, lstQ_l, tupQ_t, dctQ_d, optQ_s, gvalQ_v, brV_s, asL_l, truV_b, truV_n, truV_i, lenV_t, lenV_s, lenV_l, idxV_t, idxV_s, idxV_l, atI_0, atI_1, atI_2, atI_3, bin_add, bin_sub, bin_mul, bin_div, bin_mod, bin_pow, bin_shl, bin_shr, bin_and, bin_addL, bin_addT, aug_add, aug_sub, aug_mul, cmp_lt, cmp_le, cmp_gt, cmp_ge, cmp_is, cmp_isnt, cmp_eq, cmp_ne, tst_e, wipe_nil, wipe_cons, asg_one, asg_many, asgs_nil, asgs_cons, seqV_t, seqV_s, seqV_l, chkV_t, chkV_l, chkV_s, chkV_a, callG_fn, isCal_fn, isCal_cls, isCalk_fn, callK_fn, frz_nil, puSp_run, bf_len, bf_abs, bf_int, bf_intb, bf_tupT, bf_tupL, bf_listL, bf_listT, bf_min2, bf_max2, bf_isi, slc_l, slc_t, slc_s, fld_i, setB, tabA_hit, isi_tt, isi_ti, isi_ii, isi_it, isi_ib, isi_bi, isi_bb, isi_ss, Cxt.nox, natI_0, natI_1, natI_2, natI_3, natI_4, natI_5, natI_6, natI_7, Bool.not_true, Bool.not_false, decide_true, decide_false, Bool.false_eq_true, if_true, if_false, celQ_set, idxV_set, Sto.set_set, ixN_30, ixN_31, ixN_32, enumV_n, enumV_c, zipV_n, zipV_c, objQ_set, isNon_n, isNon_t, isNon_i, setC_l, dropC_n, dropC_s, dropC_a, cellOf_0, cellOf_s, cellOf_n, frz_cons, frz1_s, frz1_n, sbst_t, sbst_l, sbst_i, sbst_b, sbst_non, sbst_str, sbst_a, sbsts_n, sbsts_c, bin_addLA_set, lenV_set, seqV_set, bf_tupA_set, bmP_app, bmV_app, bf_sum_set, bf_sum_l, asInts_n, asInts_c, Option.map_some, sz_0, sz_1, sz_2, sz_3, sz_4, sz_5, sz_6, sz_7, List.map_cons, List.map_nil, List.length_cons, List.length_nil, List.cons_append, List.nil_append, List.append_nil, List.drop_nil, List.set_cons_zero, List.set_cons_succ, List.replicate_succ, List.replicate_zero, Nat.reduceSub, Nat.reduceAdd, decide_eq_true_eq, true_and, and_true, cut1_h0, cut1_l1, cut2_h0, cut2_h1, cut2_l1, cut2_l2, cut3_h0, cut3_h1, cut3_h2, cut3_l1, cut3_l2, cut3_l3, cut4_l1, Int.reduceAdd, Int.reduceSub, Int.reduceMod, Int.reduceNeg, compL_cons, compL_nil, forL_cons, forL_nil, rng0, rng1n, rng2, rng3, r62_0, r62_1, r62_2, r62_3, szl_0, szl_1, szl_2, szl_3, szl_4, szl_5, szl_6, szl_7])
def prods (rows : List T3) (parts : List Rat) (c : Nat) : List Rat := (rows.zip parts).map fun p => p.2 * comp3 c p.1
theorem made_loop {rows : List T3} {parts : List Rat} (ok : MadeOk rows parts) (c : Nat) {step : Val → DE → Env → Sto → Prop} {chk : Sto → Prop} {S : Sto} {D : DE} {mk : Rat → Option Val → Env} (hc : chk S)
    (hs : ∀ (i : Nat) (acc : Rat) (o : Option Val) (nx : DE) (h1 : i < rows.length) (h2 : i < parts.length), Pz acc (parts[i] * comp3 c rows[i]) → Pz parts[i] (comp3 c rows[i]) → (∀ o, nx.nx (mk (acc + parts[i] * comp3 c rows[i]) o) S) → step (.int (i : Int)) nx (mk acc o) S)
    (hD : ∀ o, D.nx (mk (madeK rows parts c) o) S) (o : Option Val) : forL step chk (rngV 0 (rows.length : Int).toNat) D (mk 0 o) S := by
  rw [show (rows.length : Int).toNat = rows.length by simp, rngV_range]
  have key : ∀ (m i : Nat) (acc : Rat) (o : Option Val), i + m = rows.length → PzS acc ((prods rows parts c).drop i) → acc + rsum ((prods rows parts c).drop i) = madeK rows parts c → forL step chk (((List.range rows.length).drop i).map fun k : Nat => Val.int (0 + k)) D (mk acc o) S := by
    intro m
    have hl : (prods rows parts c).length = rows.length := by
      unfold prods
      rw [List.length_map, List.length_zip, ← ok.l, Nat.min_self]
    induction m with
    | zero =>
      intro i acc o hi hp hT
      rw [List.drop_eq_nil_of_le (by rw [hl]; omega)] at hT
      rw [List.drop_eq_nil_of_le (by rw [List.length_range]; omega)]
      have : acc = madeK rows parts c := by
        rw [← hT]
        show acc = acc + 0
        grind
      rw [this]
      exact ⟨hc, hD o⟩
    | succ m ih =>
      intro i acc o hi hp hT
      have h1 : i < rows.length := by omega
      have h2 : i < parts.length := by rw [← ok.l]; omega
      have hz : i < (rows.zip parts).length := by rw [List.length_zip]; omega
      have ed : (prods rows parts c).drop i = parts[i] * comp3 c rows[i] :: (prods rows parts c).drop (i + 1) := by
        rw [List.drop_eq_getElem_cons (by rw [hl]; exact h1)]
        congr 1
        unfold prods
        rw [List.getElem_map, List.getElem_zip]
      rw [ed] at hp hT
      rw [List.drop_eq_getElem_cons (by rw [List.length_range]; exact h1), List.map_cons, List.getElem_range, Int.zero_add]
      refine ⟨hc, hs i acc o _ h1 h2 hp.1 ((ok.pz c).1 _ (List.mem_iff_getElem.mpr ⟨i, hz, by rw [List.getElem_zip]⟩)) fun o => ih (i + 1) _ o (by omega) hp.2 ?_⟩
      rw [← hT]
      show acc + _ + rsum _ = acc + (_ + rsum _)
      grind
  have := key rows.length 0 0 o (by omega) (by rw [List.drop_zero]; exact (ok.pz c).2) (by
    rw [List.drop_zero]
    show 0 + madeK rows parts c = _
    grind)
  rw [List.drop_zero] at this
  exact this
def sp__law_made : ISp := puSp (fun p : List T3 × List Rat => [.lst (p.1.map trV), .lst (p.2.map frV)]) (fun p => MadeOk p.1 p.2) fun p => trV (madeF p.1 p.2)
theorem at_comp {t : T3} : ∀ k : Nat, k < 3 → L2.atI [frV t.1, frV t.2.1, frV t.2.2] (k : Int) = some (frV (comp3 k t))
  | 0, _ => rfl
  | 1, _ => rfl
  | 2, _ => rfl
  | k + 3, h => by omega
theorem hsp__law_made {D : Nat → Li.G} {A : Addr → Str → Prop} (h304 : D 304 = .fn sp__law_plus 2 []) (h306 : D 306 = .fn sp__law_times 2 []) (vs : List Val) (S : Sto) (Q : VQ) (R : EQ) (hl : vs.length = 2) (h : sp__law_made.run vs S Q R) : evD { D := D, A := A, er := R } Lt.b__law_made 6 [2] vs S Q := by
  obtain ⟨⟨rows, parts⟩, rfl, ok, hQ⟩ := h
  have hn : rows.length ≤ 100 := ok.n
  unfold Lt.b__law_made
  walk_at "lc"
  rw [h304, h306]
  intro a ha
  walk_at "lc"
  rw [List.length_map]
  have ok : MadeOk rows parts := ok
  refine ⟨⟨by omega, by omega⟩, made_loop ok 0 (mk := fun acc o => [some (.lst (rows.map trV)), some (.lst (parts.map frV)), some (.adr a), some (.int 0), some (frV acc), o]) trivial (fun i acc o nx h1 h2 p1 p2 k => ?_) (fun o => ?_) _⟩
  · walk_at "lt"
    rw [atI_nat (by rw [List.length_map]; exact h2), List.getElem?_map, List.getElem?_eq_getElem h2, Option.map_some, optQ_s, atI_nat (by rw [List.length_map]; exact h1), List.getElem?_map, List.getElem?_eq_getElem h1, Option.map_some, optQ_s]
    unfold trV
    walk_at "lt"
    exact call_times p2 (call_plus p1 (k _))
  walk_at "lt"
  rw [List.length_map]
  refine ⟨⟨by omega, by omega⟩, made_loop ok 1 (mk := fun acc o => [some (.lst (rows.map trV)), some (.lst (parts.map frV)), some (.adr a), some (.int 1), some (frV acc), o]) trivial (fun i acc o nx h1 h2 p1 p2 k => ?_) (fun o => ?_) _⟩
  · walk_at "lt"
    rw [atI_nat (by rw [List.length_map]; exact h2), List.getElem?_map, List.getElem?_eq_getElem h2, Option.map_some, optQ_s, atI_nat (by rw [List.length_map]; exact h1), List.getElem?_map, List.getElem?_eq_getElem h1, Option.map_some, optQ_s]
    unfold trV
    walk_at "lt"
    exact call_times p2 (call_plus p1 (k _))
  walk_at "lt"
  rw [List.length_map]
  refine ⟨⟨by omega, by omega⟩, made_loop ok 2 (mk := fun acc o => [some (.lst (rows.map trV)), some (.lst (parts.map frV)), some (.adr a), some (.int 2), some (frV acc), o]) trivial (fun i acc o nx h1 h2 p1 p2 k => ?_) (fun o => ?_) _⟩
  · walk_at "lt"
    rw [atI_nat (by rw [List.length_map]; exact h2), List.getElem?_map, List.getElem?_eq_getElem h2, Option.map_some, optQ_s, atI_nat (by rw [List.length_map]; exact h1), List.getElem?_map, List.getElem?_eq_getElem h1, Option.map_some, optQ_s]
    unfold trV
    walk_at "lt"
    exact call_times p2 (call_plus p1 (k _))
  walk_at "lt"
  rw [Sto.set_del ha, sbst_fr, sbst_fr, sbst_fr]
  exact hQ
end Li
set_option Elab.async false
set_option linter.all false
set_option maxRecDepth 100000
set_option maxHeartbeats 2000000
/-! Lw4: the wish. -/
namespace Li
open PySem
local macro_rules | `(tactic| walk_at "li") => `(tactic| simp only [evD, evSs, evS, evE, evEs, evI, evO, evIt, slotQ_0, slotQ_s, cloQ_0, cloQ_s, capQ_nil, capQ_cons, intQ_i, adrQ_a, lstQ_l, tupQ_t, dctQ_d, optQ_s, gvalQ_v, brV_s, asL_l, truV_b, truV_n, truV_i, lenV_t, lenV_s, lenV_l, idxV_t, idxV_s, idxV_l, atI_0, atI_1, atI_2, atI_3, bin_add, bin_sub, bin_mul, bin_div, bin_mod, bin_pow, bin_shl, bin_shr, bin_and, bin_addL, bin_addT, aug_add, aug_sub, aug_mul, cmp_lt, cmp_le, cmp_gt, cmp_ge, cmp_is, cmp_isnt, cmp_eq, cmp_ne, tst_e, wipe_nil, wipe_cons, asg_one, asg_many, asgs_nil, asgs_cons, seqV_t, seqV_s, seqV_l, chkV_t, chkV_l, chkV_s, chkV_a, callG_fn, isCal_fn, isCal_cls, isCalk_fn, callK_fn, frz_nil, puSp_run, bf_len, bf_abs, bf_int, bf_intb, bf_tupT, bf_tupL, bf_listL, bf_listT, bf_min2, bf_max2, bf_isi, slc_l, slc_t, slc_s, fld_i, setB, tabA_hit, isi_tt, isi_ti, isi_ii, isi_it, isi_ib, isi_bi, isi_bb, isi_ss, Cxt.nox, natI_0, natI_1, natI_2, natI_3, natI_4, natI_5, natI_6, natI_7, Bool.not_true, Bool.not_false, decide_true, decide_false, Bool.false_eq_true, if_true, if_false, celQ_set, idxV_set, Sto.set_set, ixN_30, ixN_31, ixN_32, enumV_n, enumV_c, zipV_n, zipV_c, objQ_set, isNon_n, isNon_t, isNon_i, setC_l, dropC_n, dropC_s, dropC_a, cellOf_0, cellOf_s, cellOf_n, frz_cons, frz1_s, frz1_n, sbst_t, sbst_l, sbst_i, sbst_b, sbst_non, sbst_str, sbst_a, sbsts_n, sbsts_c, bin_addLA_set, lenV_set, seqV_set, bf_tupA_set, bmP_app, bmV_app, bf_sum_set, bf_sum_l, asInts_n, asInts_c, Option.map_some, sz_0, sz_1, sz_2, sz_3, sz_4, sz_5, sz_6, sz_7, List.map_cons, List.map_nil, List.length_cons, List.length_nil, List.cons_append, List.nil_append, List.append_nil, List.drop_nil, List.set_cons_zero, List.set_cons_succ, List.replicate_succ, List.replicate_zero, Nat.reduceSub, Nat.reduceAdd, decide_eq_true_eq, true_and, and_true])
local macro_rules | `(tactic| walk_at "lc") => `(tactic| simp only [evD, evSs, evS, evE, evEs, evI, evO, evIt, slotQ_0, slotQ_s, cloQ_0, cloQ_s, capQ_nil, capQ_cons, intQ_i, adrQ_a, lstQ_l, tupQ_t, dctQ_d, optQ_s, gvalQ_v, brV_s, asL_l, truV_b, truV_n, truV_i, lenV_t, lenV_s, lenV_l, idxV_t, idxV_s, idxV_l, atI_0, atI_1, atI_2, atI_3, bin_add, bin_sub, bin_mul, bin_div, bin_mod, bin_pow, bin_shl, bin_shr, bin_and, bin_addL, bin_addT, aug_add, aug_sub, aug_mul, cmp_lt, cmp_le, cmp_gt, cmp_ge, cmp_is, cmp_isnt, cmp_eq, cmp_ne, tst_e, wipe_nil, wipe_cons, asg_one, asg_many, asgs_nil, asgs_cons, seqV_t, seqV_s, seqV_l, chkV_t, chkV_l, chkV_s, chkV_a, callG_fn, isCal_fn, isCal_cls, isCalk_fn, callK_fn, frz_nil, puSp_run, bf_len, bf_abs, bf_int, bf_intb, bf_tupT, bf_tupL, bf_listL, bf_listT, bf_min2, bf_max2, bf_isi, slc_l, slc_t, slc_s, fld_i, setB, tabA_hit, isi_tt, isi_ti, isi_ii, isi_it, isi_ib, isi_bi, isi_bb, isi_ss, Cxt.nox, natI_0, natI_1, natI_2, natI_3, natI_4, natI_5, natI_6, natI_7, Bool.not_true, Bool.not_false, decide_true, decide_false, Bool.false_eq_true, if_true, if_false, celQ_set, idxV_set, Sto.set_set, ixN_30, ixN_31, ixN_32, enumV_n, enumV_c, zipV_n, zipV_c, objQ_set, isNon_n, isNon_t, isNon_i, setC_l, dropC_n, dropC_s, dropC_a, cellOf_0, cellOf_s, cellOf_n, frz_cons, frz1_s, frz1_n, sbst_t, sbst_l, sbst_i, sbst_b, sbst_non, sbst_str, sbst_a, sbsts_n, sbsts_c, bin_addLA_set, lenV_set, seqV_set, bf_tupA_set, bmP_app, bmV_app, bf_sum_set, bf_sum_l, asInts_n, asInts_c, Option.map_some, sz_0, sz_1, sz_2, sz_3, sz_4, sz_5, sz_6, sz_7, List.map_cons, List.map_nil, List.length_cons, List.length_nil, List.cons_append, List.nil_append, List.append_nil, List.drop_nil, List.set_cons_zero, List.set_cons_succ, List.replicate_succ, List.replicate_zero, Nat.reduceSub, Nat.reduceAdd, decide_eq_true_eq, true_and, and_true, cut1_h0, cut1_l1, cut2_h0, cut2_h1, cut2_l1, cut2_l2, cut3_h0, cut3_h1, cut3_h2, cut3_l1, cut3_l2, cut3_l3, cut4_l1, Int.reduceAdd, Int.reduceSub, Int.reduceMod, Int.reduceNeg, compL_cons, compL_nil, forL_cons, forL_nil, rng0, rng1n, rng2, rng3, r62_0, r62_1, r62_2, r62_3, szl_0, szl_1, szl_2, szl_3, szl_4, szl_5, szl_6, szl_7])
local macro_rules | `(tactic| walk_at "lt") => `(tactic| try simp only [evD, evSs, evS, evE, evEs, evI, evO, evIt, slotQ_0, slotQ_s, cloQ_0, cloQ_s, capQ_nil, capQ_cons, intQ_i, adrQ_a, lstQ_l, tupQ_t, dctQ_d, optQ_s, gvalQ_v, brV_s, asL_l, truV_b, truV_n, truV_i, lenV_t, lenV_s, lenV_l, idxV_t, idxV_s, idxV_l, atI_0, atI_1, atI_2, atI_3, bin_add, bin_sub, bin_mul, bin_div, bin_mod, bin_pow, bin_shl, bin_shr, bin_and, bin_addL, bin_addT, aug_add, aug_sub, aug_mul, cmp_lt, cmp_le, cmp_gt, cmp_ge, cmp_is, cmp_isnt, cmp_eq, cmp_ne, tst_e, wipe_nil, wipe_cons, asg_one, asg_many, asgs_nil, asgs_cons, seqV_t, seqV_s, seqV_l, chkV_t, chkV_l, chkV_s, chkV_a, callG_fn, isCal_fn, isCal_cls, isCalk_fn, callK_fn, frz_nil, puSp_run, bf_len, bf_abs, bf_int, bf_intb, bf_tupT, bf_tupL, bf_listL, bf_listT, bf_min2, bf_max2, bf_isi, slc_l, slc_t, slc_s, fld_i, setB, tabA_hit, isi_tt, isi_ti, isi_ii, isi_it, isi_ib, isi_bi, isi_bb, isi_ss, Cxt.nox, natI_0, natI_1, natI_2, natI_3, natI_4, natI_5, natI_6, natI_7, Bool.not_true, Bool.not_false, decide_true, decide_false, Bool.false_eq_true, if_true, if_false, celQ_set, idxV_set, Sto.set_set, ixN_30, ixN_31, ixN_32, enumV_n, enumV_c, zipV_n, zipV_c, objQ_set, isNon_n, isNon_t, isNon_i, setC_l, dropC_n, dropC_s, dropC_a, cellOf_0, cellOf_s, cellOf_n, frz_cons, frz1_s, frz1_n, sbst_t, sbst_l, sbst_i, sbst_b, sbst_non, sbst_str, sbst_a, sbsts_n, sbsts_c, bin_addLA_set, lenV_set, seqV_set, bf_tupA_set, bmP_app, bmV_app, bf_sum_set, bf_sum_l, asInts_n, asInts_c, Option.map_some, sz_0, sz_1, sz_2, sz_3, sz_4, sz_5, sz_6, sz_7, List.map_cons, List.map_nil, List.length_cons, List.length_nil, List.cons_append, List.nil_append, List.append_nil, List.drop_nil, List.set_cons_zero, List.set_cons_succ, List.replicate_succ, List.replicate_zero, Nat.reduceSub, Nat.reduceAdd, decide_eq_true_eq, true_and, and_true, cut1_h0, cut1_l1, cut2_h0, cut2_h1, cut2_l1, cut2_l2, cut3_h0, cut3_h1, cut3_h2, cut3_l1, cut3_l2, cut3_l3, cut4_l1, Int.reduceAdd, Int.reduceSub, Int.reduceMod, Int.reduceNeg, compL_cons, compL_nil, forL_cons, forL_nil, rng0, rng1n, rng2, rng3, r62_0, r62_1, r62_2, r62_3, szl_0, szl_1, szl_2, szl_3, szl_4, szl_5, szl_6, szl_7])
theorem call_parts {p : Addr} {m : Nat} {n : Nat} {S : Sto} {Q : VQ} {er : EQ} (hP : Pur S p n) (h64 : n < 2 ^ 67) (h1 : 1 ≤ m) (h5 : m ≤ 5) (k : ∀ (ps : List Rat) (N : Nat) S', ps.length = m → 0 < N → N ≤ 61 → (∀ x ∈ ps, 0 ≤ x ∧ Fz N 1 x) → rsum ps = 1 → Ins S S' p → Pur S' p (n + 10) → Q (.lst (ps.map frV)) S') : sp__law_parts.run [.adr p, .int m] S Q er :=
  ⟨p, m, n, rfl, hP, h64, ⟨h1, h5⟩, fun v S' ⟨ps, N, hv, a, b, c, d, e⟩ hI hP' => by
    subst hv
    exact k ps N S' a b c d e hI hP'⟩
theorem row_fz {t : T3} (h : Row120 t) : Fz3 120 1 t := fz3_of (by decide) h.1 h.2
theorem made_ok120 {rows : List T3} {ps : List Rat} {N : Nat} (hr : ∀ t ∈ rows, Row120 t) (hl : rows.length = ps.length) (hn : rows.length ≤ 100) (h61 : N ≤ 61) (hp : ∀ x ∈ ps, 0 ≤ x ∧ Fz N 1 x) : MadeOk rows ps :=
  madeOk_of (E := N) (D := 120) hl hn (B2.mono (a := 6) (by unfold B2; omega) (by decide)) (B2.mono (a := 7) (by unfold B2; decide) (by decide)) (fun t ht => row_fz (hr t ht)) fun x hx => (hp x hx).2
theorem call_made {rows : List T3} {ps : List Rat} {S : Sto} {Q : VQ} {er : EQ} (ok : MadeOk rows ps) (hQ : Q (trV (madeF rows ps)) S) : sp__law_made.run [.lst (rows.map trV), .lst (ps.map frV)] S Q er := ⟨(rows, ps), rfl, ok, hQ⟩
theorem den_of {D : Nat} {t : T3} (h : Fz3 D 1 t) (k : Nat) : (comp3 k t).den ∣ D := (h.k k).den_dvd
def sp__law_wish : ISp := purSp 66 (fun p (rows : List T3) => [.adr p, .lst (rows.map trV)]) (fun rows => 1 ≤ rows.length ∧ rows.length ≤ 5 ∧ ∀ t ∈ rows, Row120 t) (fun rows v => ∃ w N, v = trV w ∧ 0 < N ∧ N ≤ 61 ∧ In3 w ∧ ∀ k, (comp3 k w).den ∣ N * 120) fun _ => 20
theorem hsp__law_wish {D : Nat → Li.G} {A : Addr → Str → Prop} (h302 : D 302 = .fn sp__law_pick 2 []) (h308 : D 308 = .fn sp__law_plain_share 1 []) (h359 : D 359 = .fn sp__law_made 2 []) (h385 : D 385 = .fn sp__law_parts 2 []) (vs : List Val) (S : Sto) (Q : VQ) (R : EQ) (hl : vs.length = 2) (h : sp__law_wish.run vs S Q R) : evD { D := D, A := A, er := R } Lt.b__law_wish 7 [] vs S Q := by
  obtain ⟨p, rows, n, rfl, hP, h64, ⟨h1, h5, hr⟩, hQ⟩ := h
  unfold Lt.b__law_wish
  walk_at "lc"
  rw [h302, h308, h359, h385]
  walk_at "lc"
  refine call_pick hP (by omega) (by decide) (by decide) fun w S1 w0 w1 hI1 hP1 => ?_
  walk_at "lt"
  rw [List.length_map]
  refine call_parts hP1 (by omega) h1 h5 fun ps N S2 hl N0 N61 hp hs hI2 hP2 => ?_
  have mo := made_ok120 hr hl.symm (by omega) N61 hp
  refine call_made mo ?_
  walk_at "lt"
  refine call_plain hP2 (by omega) fun x S3 hx hI3 hP3 => ?_
  walk_at "lt"
  refine call_plain hP3 (by omega) fun y S4 hy hI4 hP4 => ?_
  walk_at "lt"
  refine call_plain hP4 (by omega) fun z S5 hz hI5 hP5 => ?_
  walk_at "lt"
  refine call_pick hP5 (by omega) (by decide) (by decide) fun a S6 a0 a1 hI6 hP6 => ?_
  walk_at "lt"
  refine call_pick hP6 (by omega) (by decide) (by decide) fun b S7 b0 b1 hI7 hP7 => ?_
  walk_at "lt"
  refine call_pick hP7 (by omega) (by decide) (by decide) fun c S8 c0 c1 hI8 hP8 => ?_
  walk_at "lt"
  have hI := ((((((hI1.trans hI2).trans hI3).trans hI4).trans hI5).trans hI6).trans hI7).trans hI8
  obtain ⟨mf, mi⟩ := made_fz N0 (show 0 < 120 by decide) hl.symm (fun t ht => (hr t ht).1) (fun t ht => row_fz (hr t ht)) (fun x hx => (hp x hx).2) (fun x hx => (hp x hx).1) hs
  have fin : ∀ w, In3 w → (∀ k, (comp3 k w).den ∣ N * 120) → Q (trV w) S8 := fun w hw hd => hQ _ _ ⟨w, N, rfl, N0, N61, hw, hd⟩ hI (hP8.up (by dsimp only; omega))
  have made := fin (madeF rows ps) mi (den_of mf)
  have free := fin (x, y, z) ⟨hx.1, hy.1, hz.1⟩ fun k => Nat.dvd_trans ((row_60 hx hy hz).2 k) (Nat.dvd_mul_left _ _)
  have one : ∀ t : Int, 0 ≤ t → t < 2 → In1 (t : Rat) := fun t t0 t1 => by
    have : t = 0 ∨ t = 1 := by omega
    rcases this with rfl | rfl
    · exact ⟨by decide, by decide⟩
    · exact ⟨by decide, by decide⟩
  have corner := fin ((a : Rat), (b : Rat), (c : Rat)) ⟨one a a0 a1, one b b0 b1, one c c0 c1⟩ fun k => by
    match k with
    | 0 => exact Nat.one_dvd _
    | 1 => exact Nat.one_dvd _
    | k + 2 => exact Nat.one_dvd _
  have : w = 0 ∨ w = 1 ∨ w = 2 ∨ w = 3 := by omega
  rcases this with rfl | rfl | rfl | rfl
  · exact made
  · exact free
  · exact free
  · exact corner
end Li
set_option Elab.async false
set_option linter.all false
set_option maxRecDepth 100000
set_option maxHeartbeats 4000000
/-! S46: law k46: none made is nearer. -/
namespace Li
open PySem
local macro_rules | `(tactic| walk_at "li") => `(tactic| simp only [evD, evSs, evS, evE, evEs, evI, evO, evIt, slotQ_0, slotQ_s, cloQ_0, cloQ_s, capQ_nil, capQ_cons, intQ_i, adrQ_a, lstQ_l, tupQ_t, dctQ_d, optQ_s, gvalQ_v, brV_s, asL_l, truV_b, truV_n, truV_i, lenV_t, lenV_s, lenV_l, idxV_t, idxV_s, idxV_l, atI_0, atI_1, atI_2, atI_3, bin_add, bin_sub, bin_mul, bin_div, bin_mod, bin_pow, bin_shl, bin_shr, bin_and, bin_addL, bin_addT, aug_add, aug_sub, aug_mul, cmp_lt, cmp_le, cmp_gt, cmp_ge, cmp_is, cmp_isnt, cmp_eq, cmp_ne, tst_e, wipe_nil, wipe_cons, asg_one, asg_many, asgs_nil, asgs_cons, seqV_t, seqV_s, seqV_l, chkV_t, chkV_l, chkV_s, chkV_a, callG_fn, isCal_fn, isCal_cls, isCalk_fn, callK_fn, frz_nil, puSp_run, bf_len, bf_abs, bf_int, bf_intb, bf_tupT, bf_tupL, bf_listL, bf_listT, bf_min2, bf_max2, bf_isi, slc_l, slc_t, slc_s, fld_i, setB, tabA_hit, isi_tt, isi_ti, isi_ii, isi_it, isi_ib, isi_bi, isi_bb, isi_ss, Cxt.nox, natI_0, natI_1, natI_2, natI_3, natI_4, natI_5, natI_6, natI_7, Bool.not_true, Bool.not_false, decide_true, decide_false, Bool.false_eq_true, if_true, if_false, celQ_set, idxV_set, Sto.set_set, ixN_30, ixN_31, ixN_32, enumV_n, enumV_c, zipV_n, zipV_c, objQ_set, isNon_n, isNon_t, isNon_i, setC_l, dropC_n, dropC_s, dropC_a, cellOf_0, cellOf_s, cellOf_n, frz_cons, frz1_s, frz1_n, sbst_t, sbst_l, sbst_i, sbst_b, sbst_non, sbst_str, sbst_a, sbsts_n, sbsts_c, bin_addLA_set, lenV_set, seqV_set, bf_tupA_set, bmP_app, bmV_app, bf_sum_set, bf_sum_l, asInts_n, asInts_c, Option.map_some, sz_0, sz_1, sz_2, sz_3, sz_4, sz_5, sz_6, sz_7, List.map_cons, List.map_nil, List.length_cons, List.length_nil, List.cons_append, List.nil_append, List.append_nil, List.drop_nil, List.set_cons_zero, List.set_cons_succ, List.replicate_succ, List.replicate_zero, Nat.reduceSub, Nat.reduceAdd, decide_eq_true_eq, true_and, and_true])
local macro_rules | `(tactic| walk_at "lc") => `(tactic| simp only [evD, evSs, evS, evE, evEs, evI, evO, evIt, slotQ_0, slotQ_s, cloQ_0, cloQ_s, capQ_nil, capQ_cons, intQ_i, adrQ_a, lstQ_l, tupQ_t, dctQ_d, optQ_s, gvalQ_v, brV_s, asL_l, truV_b, truV_n, truV_i, lenV_t, lenV_s, lenV_l, idxV_t, idxV_s, idxV_l, atI_0, atI_1, atI_2, atI_3, bin_add, bin_sub, bin_mul, bin_div, bin_mod, bin_pow, bin_shl, bin_shr, bin_and, bin_addL, bin_addT, aug_add, aug_sub, aug_mul, cmp_lt, cmp_le, cmp_gt, cmp_ge, cmp_is, cmp_isnt, cmp_eq, cmp_ne, tst_e, wipe_nil, wipe_cons, asg_one, asg_many, asgs_nil, asgs_cons, seqV_t, seqV_s, seqV_l, chkV_t, chkV_l, chkV_s, chkV_a, callG_fn, isCal_fn, isCal_cls, isCalk_fn, callK_fn, frz_nil, puSp_run, bf_len, bf_abs, bf_int, bf_intb, bf_tupT, bf_tupL, bf_listL, bf_listT, bf_min2, bf_max2, bf_isi, slc_l, slc_t, slc_s, fld_i, setB, tabA_hit, isi_tt, isi_ti, isi_ii, isi_it, isi_ib, isi_bi, isi_bb, isi_ss, Cxt.nox, natI_0, natI_1, natI_2, natI_3, natI_4, natI_5, natI_6, natI_7, Bool.not_true, Bool.not_false, decide_true, decide_false, Bool.false_eq_true, if_true, if_false, celQ_set, idxV_set, Sto.set_set, ixN_30, ixN_31, ixN_32, enumV_n, enumV_c, zipV_n, zipV_c, objQ_set, isNon_n, isNon_t, isNon_i, setC_l, dropC_n, dropC_s, dropC_a, cellOf_0, cellOf_s, cellOf_n, frz_cons, frz1_s, frz1_n, sbst_t, sbst_l, sbst_i, sbst_b, sbst_non, sbst_str, sbst_a, sbsts_n, sbsts_c, bin_addLA_set, lenV_set, seqV_set, bf_tupA_set, bmP_app, bmV_app, bf_sum_set, bf_sum_l, asInts_n, asInts_c, Option.map_some, sz_0, sz_1, sz_2, sz_3, sz_4, sz_5, sz_6, sz_7, List.map_cons, List.map_nil, List.length_cons, List.length_nil, List.cons_append, List.nil_append, List.append_nil, List.drop_nil, List.set_cons_zero, List.set_cons_succ, List.replicate_succ, List.replicate_zero, Nat.reduceSub, Nat.reduceAdd, decide_eq_true_eq, true_and, and_true, cut1_h0, cut1_l1, cut2_h0, cut2_h1, cut2_l1, cut2_l2, cut3_h0, cut3_h1, cut3_h2, cut3_l1, cut3_l2, cut3_l3, cut4_l1, Int.reduceAdd, Int.reduceSub, Int.reduceMod, Int.reduceNeg, compL_cons, compL_nil, forL_cons, forL_nil, rng0, rng1n, rng2, rng3, r62_0, r62_1, r62_2, r62_3, szl_0, szl_1, szl_2, szl_3, szl_4, szl_5, szl_6, szl_7])
local macro_rules | `(tactic| walk_at "lt") => `(tactic| try simp only [evD, evSs, evS, evE, evEs, evI, evO, evIt, slotQ_0, slotQ_s, cloQ_0, cloQ_s, capQ_nil, capQ_cons, intQ_i, adrQ_a, lstQ_l, tupQ_t, dctQ_d, optQ_s, gvalQ_v, brV_s, asL_l, truV_b, truV_n, truV_i, lenV_t, lenV_s, lenV_l, idxV_t, idxV_s, idxV_l, atI_0, atI_1, atI_2, atI_3, bin_add, bin_sub, bin_mul, bin_div, bin_mod, bin_pow, bin_shl, bin_shr, bin_and, bin_addL, bin_addT, aug_add, aug_sub, aug_mul, cmp_lt, cmp_le, cmp_gt, cmp_ge, cmp_is, cmp_isnt, cmp_eq, cmp_ne, tst_e, wipe_nil, wipe_cons, asg_one, asg_many, asgs_nil, asgs_cons, seqV_t, seqV_s, seqV_l, chkV_t, chkV_l, chkV_s, chkV_a, callG_fn, isCal_fn, isCal_cls, isCalk_fn, callK_fn, frz_nil, puSp_run, bf_len, bf_abs, bf_int, bf_intb, bf_tupT, bf_tupL, bf_listL, bf_listT, bf_min2, bf_max2, bf_isi, slc_l, slc_t, slc_s, fld_i, setB, tabA_hit, isi_tt, isi_ti, isi_ii, isi_it, isi_ib, isi_bi, isi_bb, isi_ss, Cxt.nox, natI_0, natI_1, natI_2, natI_3, natI_4, natI_5, natI_6, natI_7, Bool.not_true, Bool.not_false, decide_true, decide_false, Bool.false_eq_true, if_true, if_false, celQ_set, idxV_set, Sto.set_set, ixN_30, ixN_31, ixN_32, enumV_n, enumV_c, zipV_n, zipV_c, objQ_set, isNon_n, isNon_t, isNon_i, setC_l, dropC_n, dropC_s, dropC_a, cellOf_0, cellOf_s, cellOf_n, frz_cons, frz1_s, frz1_n, sbst_t, sbst_l, sbst_i, sbst_b, sbst_non, sbst_str, sbst_a, sbsts_n, sbsts_c, bin_addLA_set, lenV_set, seqV_set, bf_tupA_set, bmP_app, bmV_app, bf_sum_set, bf_sum_l, asInts_n, asInts_c, Option.map_some, sz_0, sz_1, sz_2, sz_3, sz_4, sz_5, sz_6, sz_7, List.map_cons, List.map_nil, List.length_cons, List.length_nil, List.cons_append, List.nil_append, List.append_nil, List.drop_nil, List.set_cons_zero, List.set_cons_succ, List.replicate_succ, List.replicate_zero, Nat.reduceSub, Nat.reduceAdd, decide_eq_true_eq, true_and, and_true, cut1_h0, cut1_l1, cut2_h0, cut2_h1, cut2_l1, cut2_l2, cut3_h0, cut3_h1, cut3_h2, cut3_l1, cut3_l2, cut3_l3, cut4_l1, Int.reduceAdd, Int.reduceSub, Int.reduceMod, Int.reduceNeg, compL_cons, compL_nil, forL_cons, forL_nil, rng0, rng1n, rng2, rng3, r62_0, r62_1, r62_2, r62_3, szl_0, szl_1, szl_2, szl_3, szl_4, szl_5, szl_6, szl_7])
/-! ### plain mathematics -/
theorem dist_dot (e : E3) (a b : T3) : dist e a b = Mt.dot (eR e) (gap a b) (gap a b) := by
  unfold dist Mt.dot gap eR rsum
  simp only [rsum]
  grind
theorem weigh_dot (e : E3) (a b : T3) : weighF e a b = Mt.dot (eR e) a b := by
  unfold weighF Mt.dot eR rsum
  simp only [rsum]
  grind
theorem near_le {e : E3} (he : Eye3 e) {q m o : T3} (h : Mt.dot (eR e) (gap q m) (gap o m) ≤ 0) : dist e q m ≤ dist e q o := by
  rw [dist_dot, dist_dot]
  have h2 := Mt.dot_nn (eR_pos he) (gap o m)
  have e1 : Mt.dot (eR e) (gap q o) (gap q o) = Mt.dot (eR e) (gap q m) (gap q m) - 2 * Mt.dot (eR e) (gap q m) (gap o m) + Mt.dot (eR e) (gap o m) (gap o m) := by
    unfold Mt.dot gap
    grind
  rw [e1]
  grind
theorem madeK_cons {t : T3} {rows : List T3} {p : Rat} {ps : List Rat} {k : Nat} : madeK (t :: rows) (p :: ps) k = p * comp3 k t + madeK rows ps k := rfl
theorem lin_made {g : T3} {c : Rat} : ∀ {rows : List T3} {ps : List Rat}, rows.length = ps.length → (∀ x ∈ ps, 0 ≤ x) → (∀ t ∈ rows, g.1 * t.1 + g.2.1 * t.2.1 + g.2.2 * t.2.2 ≤ c) → g.1 * madeK rows ps 0 + g.2.1 * madeK rows ps 1 + g.2.2 * madeK rows ps 2 ≤ c * rsum ps
  | [], [], _, _, _ => by
    show g.1 * 0 + g.2.1 * 0 + g.2.2 * 0 ≤ c * 0
    grind
  | [], _ :: _, h, _, _ => by cases h
  | _ :: _, [], h, _, _ => by cases h
  | t :: rows, p :: ps, hl, hp, ht => by
    have ih := lin_made (g := g) (c := c) (rows := rows) (ps := ps) (by simpa using hl) (fun x hx => hp x (List.mem_cons_of_mem _ hx)) fun t h => ht t (List.mem_cons_of_mem _ h)
    rw [madeK_cons, madeK_cons, madeK_cons]
    have h1 := Rat.mul_nonneg (hp p List.mem_cons_self) (show 0 ≤ c - (g.1 * t.1 + g.2.1 * t.2.1 + g.2.2 * t.2.2) by
      have := ht t List.mem_cons_self
      grind)
    show _ ≤ c * (p + rsum ps)
    simp only [comp3]
    grind
theorem kkt_made {e : E3} {q m : T3} {rows : List T3} {ps : List Rat} (hl : rows.length = ps.length) (hp : ∀ x ∈ ps, 0 ≤ x) (h1 : rsum ps = 1) (hk : ∀ l ∈ rows, Mt.dot (eR e) (gap q m) (gap l m) ≤ 0) : Mt.dot (eR e) (gap q m) (gap (madeF rows ps) m) ≤ 0 := by
  have h := lin_made (g := ((eR e).1 * (gap q m).1, (eR e).2.1 * (gap q m).2.1, (eR e).2.2 * (gap q m).2.2)) (c := (eR e).1 * (gap q m).1 * m.1 + (eR e).2.1 * (gap q m).2.1 * m.2.1 + (eR e).2.2 * (gap q m).2.2 * m.2.2) hl hp fun t ht => by
    have := hk t ht
    unfold Mt.dot at this
    unfold gap at this ⊢
    simp only at this ⊢
    grind
  rw [h1] at h
  unfold Mt.dot madeF
  unfold gap at h ⊢
  simp only at h ⊢
  grind
/-- what may be nearer -/
def Oth (e : E3) (q m o : T3) : Prop := (∃ X, 0 < X ∧ B2 X 30 ∧ Fz3 X 1 o) ∧ Mt.dot (eR e) (gap q m) (gap o m) ≤ 0
theorem fz3_mono {D E : Nat} {t : T3} (h : Fz3 D 1 t) (hd : D ∣ E) (h0 : 0 < E) : Fz3 E 1 t := ⟨h.1.mono hd h0 (Nat.le_refl _), h.2.1.mono hd h0 (Nat.le_refl _), h.2.2.mono hd h0 (Nat.le_refl _)⟩
theorem fz3_gap {D : Nat} {a b : T3} (ha : Fz3 D 1 a) (hb : Fz3 D 1 b) : Fz3 D 2 (gap a b) := ⟨ha.1.sub hb.1, ha.2.1.sub hb.2.1, ha.2.2.sub hb.2.2⟩
theorem pz3_of {D : Nat} {a b : T3} (bd : B2 D 1000) (ha : Fz3 D 1 a) (hb : Fz3 D 1 b) : Pz3 a b := by
  have h1 : B2 (D * D) 9000 := (bd.mul bd).mono (by decide)
  have h2 : B2 (1 * D) 1000000 := (B2.mul (a := 1) (show B2 1 1 by unfold B2; decide) bd).mono (by decide)
  exact ⟨ha.1.pz hb.1 h1 h2 h2, ha.2.1.pz hb.2.1 h1 h2 h2, ha.2.2.pz hb.2.2 h1 h2 h2⟩
theorem distOk_of {e : E3} {D : Nat} {a b : T3} (he : Eye3 e) (bd : B2 D 1000) (ha : Fz3 D 1 a) (hb : Fz3 D 1 b) : DistOk e a b := ⟨D, 1, ((bd.mul bd).mul (bd.mul bd)).mono (by decide), B2.mono (a := 1) (by unfold B2; decide) (by decide), ha, hb, he⟩
theorem dist_fz {e : E3} {D : Nat} {a b : T3} (he : Eye3 e) (ha : Fz3 D 1 a) (hb : Fz3 D 1 b) : Fz (D * D) 1188 (dist e a b) := by
  have t : ∀ {i : Int} {x y : Rat}, Eye1 i → Fz D 1 x → Fz D 1 y → Fz (D * D) 396 ((i : Rat) * ((x - y) * (x - y))) := fun hi hx hy => by
    have h := (eyeF hi).mul ((hx.sub hy).mul (hx.sub hy))
    rw [Nat.one_mul] at h
    exact h
  have h0 : 0 < D * D := Nat.mul_pos ha.1.1 ha.1.1
  have := fz_rsum (M := 396) h0 (xs := [(e.1 : Rat) * ((a.1 - b.1) * (a.1 - b.1)), (e.2.1 : Rat) * ((a.2.1 - b.2.1) * (a.2.1 - b.2.1)), (e.2.2 : Rat) * ((a.2.2 - b.2.2) * (a.2.2 - b.2.2))]) fun x hx => by
    simp only [List.mem_cons, List.not_mem_nil, or_false] at hx
    rcases hx with rfl | rfl | rfl
    · exact t he.1 ha.1 hb.1
    · exact t he.2.1 ha.2.1 hb.2.1
    · exact t he.2.2 ha.2.2 hb.2.2
  exact this
theorem pz_dist {e : E3} {D E : Nat} {a b c d : T3} (he : Eye3 e) (bd : B2 D 1000) (be : B2 E 1000) (ha : Fz3 D 1 a) (hb : Fz3 D 1 b) (hc : Fz3 E 1 c) (hd : Fz3 E 1 d) : Pz (dist e a b) (dist e c d) := by
  refine (dist_fz he ha hb).pz (dist_fz he hc hd) (((bd.mul bd).mul (be.mul be)).mono (by decide)) ?_ ?_
  · exact (B2.mul (a := 11) (show B2 1188 11 by unfold B2; decide) (bd.mul bd)).mono (by decide)
  · exact (B2.mul (a := 11) (show B2 1188 11 by unfold B2; decide) (be.mul be)).mono (by decide)
def sp__law_right : ISp := purSp 65 (fun p (a : List T3 × T3 × E3) => [.adr p, .lst (a.1.map trV), trV a.2.1, eyV a.2.2]) (fun a => 1 ≤ a.1.length ∧ a.1.length ≤ 5 ∧ (∀ t ∈ a.1, Row120 t) ∧ Eye3 a.2.2 ∧ In3 a.2.1 ∧ ∃ N, 0 < N ∧ N ≤ 61 ∧ ∀ k, (comp3 k a.2.1).den ∣ N * 120) (fun _ v => v = .bl true) fun _ => 20
theorem half_two : ([.tup [.int 1, .int 2], .tup [.int 1, .int 2]] : List Val) = [(1 / 2 : Rat), 1 / 2].map frV := by
  rw [List.map_cons, List.map_cons, List.map_nil, frV_half]
theorem oth_made {e : E3} {q m : T3} {rows : List T3} {ps : List Rat} {N : Nat} (hr : ∀ t ∈ rows, Row120 t) (hl : rows.length = ps.length) (N0 : 0 < N) (h61 : N ≤ 61) (hp : ∀ x ∈ ps, 0 ≤ x ∧ Fz N 1 x) (h1 : rsum ps = 1) (hk : ∀ l ∈ rows, Mt.dot (eR e) (gap q m) (gap l m) ≤ 0) : Oth e q m (madeF rows ps) := by
  obtain ⟨f, _⟩ := made_fz N0 (show 0 < 120 by decide) hl (fun t ht => (hr t ht).1) (fun t ht => row_fz (hr t ht)) (fun x hx => (hp x hx).2) (fun x hx => (hp x hx).1) h1
  exact ⟨⟨N * 120, by omega, B2.mono (a := 13) (by unfold B2; omega) (by decide), f⟩, kkt_made hl (fun x hx => (hp x hx).1) h1 hk⟩
theorem hsp__law_right {C : Addr} {D : Nat → Li.G} {A : Addr → Str → Prop} (h250 : D 250 = .fnk (sp_make C) 3 2 [("eye" : Str)]) (h251 : D 251 = .fnk (sp_far C) 3 2 [("eye" : Str)]) (h307 : D 307 = .fn sp__law_below 2 []) (h310 : D 310 = .fn sp__law_far 3 []) (h359 : D 359 = .fn sp__law_made 2 []) (h385 : D 385 = .fn sp__law_parts 2 []) (h386 : D 386 = .fn sp__law_weighed 3 []) (h388 : D 388 = .fn (sp__law_shade C) 1 []) (h393 : D 393 = .fn sp__law_gaps 2 []) (hA : ∀ f ∈ shadeF, A C f)
    (vs : List Val) (S : Sto) (Q : VQ) (R : EQ) (hl : vs.length = 4) (h : sp__law_right.run vs S Q R) : evD { D := D, A := A, er := R } Lt.b__law_right 15 [10] vs S Q := by
  obtain ⟨p, ⟨rows, w, e⟩, n, rfl, hP, h64, ⟨h1, h5, hr, he, hw, N, N0, N61, hd⟩, hQ⟩ := h
  dsimp only at h1 h5 hr he hw hd
  have a1 := hA ("ember" : Str) (by simp [shadeF])
  have a2 := hA ("leaf" : Str) (by simp [shadeF])
  have a3 := hA ("sky" : Str) (by simp [shadeF])
  have bN : B2 (N * 120) 13 := by unfold B2; omega
  have ok : LightsOk rows w (N * 120) := ⟨h1, h5, by omega, bN.mono (by decide), fun t ht => by
    rcases List.mem_cons.mp ht with rfl | ht
    · exact ⟨hw, hd⟩
    · exact ⟨(hr t ht).1, fun k => Nat.dvd_trans ((hr t ht).2 k) (Nat.dvd_mul_left _ _)⟩⟩
  unfold Lt.b__law_right
  walk_at "lc"
  rw [h250, h251, h307, h310, h359, h385, h386, h388, h393]
  walk_at "lc"
  refine compL_mapA (f := fun t : T3 => shV C t) trivial (by rw [List.length_nil]; exact szn (by omega)) (fun t ht k hk => ⟨t, rfl, (hr t ht).1, hk⟩) ?_
  rw [List.nil_append]
  walk_at "lt"
  refine ⟨w, rfl, hw, rows, w, e, N * 120, rfl, he, ok, fun v hv => ?_⟩
  obtain ⟨parts, m, r, ⟨NE, E, E0, Eb, _, mf, mi⟩, _, rfl⟩ := hv
  have bM : B2 (E * (N * 120)) 1000 := (Eb.mul bN).mono (by decide)
  have M0 : 0 < E * (N * 120) := mf.1.1
  have wf := fz3_of (by omega) hw hd
  have wM := fz3_mono wf (Nat.dvd_mul_left _ _) M0
  have rM : ∀ t ∈ rows, Fz3 (E * (N * 120)) 1 t := fun t ht => fz3_mono (row_fz (hr t ht)) (Nat.dvd_trans (Nat.dvd_mul_left 120 N) (Nat.dvd_mul_left _ _)) M0
  have kkt := NE.kkt
  walk_at "lt"
  unfold shV
  walk_at "lt"
  rw [look_e, look_l, look_s]
  walk_at "lt"
  refine ⟨a1, a2, a3, ⟨w, m⟩, rfl, pz3_of bM wM mf, ?_⟩
  refine compL_mapA (f := fun _ : T3 => .bl false) trivial (by rw [List.length_nil]; exact szn (by omega)) (fun t ht k hk => ⟨⟨t, m⟩, rfl, pz3_of bM (rM t ht) mf, ⟨e, gap w m, gap t m⟩, rfl, ⟨E * (N * 120), 2, ((bM.mul bM).mul (bM.mul bM)).mono (by decide), B2.mono (a := 2) (by unfold B2; decide) (by decide), fz3_gap wM mf, fz3_gap (rM t ht) mf, he⟩, ?_⟩) ?_
  · unfold frV
    walk_at "lt"
    have h := kkt t ht
    rw [← weigh_dot] at h
    have h2 : ¬ 0 < (weighF e (gap w m) (gap t m)).num := fun z => by
      have := (Rat.le_iff (weighF e (gap w m) (gap t m)) 0).mp h
      simp at this
      omega
    rw [decide_eq_false h2]
    exact hk
  rw [List.nil_append, show rows.map (fun _ : T3 => Val.bl false) = (rows.map fun _ => false).map Val.bl by rw [List.map_map]; rfl, bf_anyL]
  have e0 : (rows.map fun _ => false).any id = false := by
    rw [List.any_map]
    simp
  rw [e0]
  walk_at "lt"
  refine ⟨⟨e, w, m⟩, rfl, distOk_of he bM wM mf, ⟨e, w, m⟩, rfl, distOk_of he bM wM mf, ?_⟩
  dsimp only
  rw [ne_fr, decide_eq_true rfl]
  walk_at "lt"
  rw [List.length_map]
  refine call_parts hP (by omega) h1 h5 fun ps1 N1 S1 l1 N10 N161 hp1 hs1 hI1 hP1 => call_made (made_ok120 hr l1.symm (by omega) N161 hp1) (call_parts hP1 (by omega) h1 h5 fun ps2 N2 S2 l2 N20 N261 hp2 hs2 hI2 hP2 => call_made (made_ok120 hr l2.symm (by omega) N261 hp2) ⟨szn (by omega), fun a ha => ⟨⟨by omega, by omega⟩, ?_⟩⟩)
  have hap := hP2.ne ha
  have hI := hI1.trans hI2
  have o1 : Oth e w m (madeF rows ps1) := oth_made hr l1.symm N10 N161 hp1 hs1 kkt
  have o2 : Oth e w m (madeF rows ps2) := oth_made hr l2.symm N20 N261 hp2 hs2 kkt
  have ro : ∀ t ∈ rows, Oth e w m t := fun t ht => ⟨⟨120, by decide, B2.mono (a := 7) (by unfold B2; decide) (by decide), row_fz (hr t ht)⟩, kkt t ht⟩
  rw [show ((rows.length : Int) - 1).toNat = rows.length - 1 by omega, rngV_range]
  refine forL_inv (fun r σ S' => ∃ (i : Nat) (os : List T3) (o11 : Option Val), i ≤ rows.length - 1 ∧ r = ((List.range (rows.length - 1)).drop i).map (fun k : Nat => Val.int (0 + k)) ∧ os.length = rows.length + 2 + i ∧ (∀ o ∈ os, Oth e w m o) ∧ S' = S2.set a (.lst (os.map trV)) ∧ σ = [some (.adr p), some (.lst (rows.map trV)), some (trV w), some (eyV e), some (.tup (rows.map fun t => shV C t)), some (shV C w), some (shV C m), some (trV m), some (trV (gap w m)), some (frV (dist e w m)), some (.adr a), o11, none, none, none]) (fun _ _ _ _ => trivial) (fun v r σ S' nx h hn => ?_) (fun σ S' h => ?_) ⟨0, rows ++ [madeF rows ps1, madeF rows ps2], none, by omega, by rw [List.drop_zero], by rw [List.length_append]; simp, fun o ho => ?_, by rw [List.map_append]; rfl, rfl⟩
  · obtain ⟨i, os, o11, hi, hrr, hlen, hos, rfl, rfl⟩ := h
    have hil : i < rows.length - 1 := by
      rcases Nat.lt_or_ge i (rows.length - 1) with z | z
      · exact z
      · rw [List.drop_eq_nil_of_le (by rw [List.length_range]; exact z)] at hrr
        cases hrr
    rw [List.drop_eq_getElem_cons (by rw [List.length_range]; exact hil), List.map_cons, List.getElem_range, Int.zero_add] at hrr
    injection hrr with hv hrr
    subst hv
    walk_at "lt"
    have ecut : cut (rows.map trV) (some (i : Int)) (some ((i : Int) + 2)) = ([rows[i]'(by omega), rows[i + 1]'(by omega)] : List T3).map trV := by
      unfold cut
      have h0 : HT.sIx (rows.map trV).length 0 (some (i : Int)) = i := by
        unfold HT.sIx
        simp
        rw [if_neg (by omega)]
        omega
      have h2 : HT.sIx (rows.map trV).length (rows.map trV).length (some ((i : Int) + 2)) = i + 2 := by
        unfold HT.sIx
        simp
        rw [if_neg (by omega)]
        omega
      rw [h0, h2, show i + 2 - i = 2 by omega, ← List.map_drop, ← List.map_take, List.drop_eq_getElem_cons (by omega), List.drop_eq_getElem_cons (by omega)]
      rfl
    rw [ecut, half_two]
    have hh : Fz 2 1 (1 / 2 : Rat) := by
      have := Fz.mk (D := 2) 1 1 (by decide) (by decide)
      have e : Rat.divInt 1 (2 : Nat) = 1 / 2 := by
        rw [Rat.divInt_eq_div]
        rfl
      rw [e] at this
      exact this
    have hpp : ∀ x ∈ [(1 / 2 : Rat), 1 / 2], 0 ≤ x ∧ Fz 2 1 x := fun x hx => by
      have : x = 1 / 2 := by simpa using hx
      rw [this]
      exact ⟨by grind, hh⟩
    have hrr2 : ∀ t ∈ [rows[i]'(by omega), rows[i + 1]'(by omega)], t ∈ rows := fun t ht => by
      simp only [List.mem_cons, List.not_mem_nil, or_false] at ht
      rcases ht with rfl | rfl <;> exact List.getElem_mem _
    refine call_made (made_ok120 (N := 2) (fun t ht => hr t (hrr2 t ht)) rfl (by simp) (by decide) hpp) ?_
    walk_at "lt"
    refine ⟨by rw [List.length_map]; exact Nat.lt_of_lt_of_le (show os.length < 100 by omega) (by decide), ?_⟩
    have hs3 : rsum [(1 / 2 : Rat), 1 / 2] = 1 := by
      show (1 / 2 : Rat) + (1 / 2 + 0) = 1
      grind
    refine hn _ _ ⟨i + 1, os ++ [madeF [rows[i]'(by omega), rows[i + 1]'(by omega)] [1 / 2, 1 / 2]], _, by omega, hrr, by rw [List.length_append]; simp; omega, fun o ho => ?_, by rw [List.map_append]; rfl, rfl⟩
    rcases List.mem_append.mp ho with ho | ho
    · exact hos o ho
    · rw [List.mem_singleton.mp ho]
      exact oth_made (N := 2) (fun t ht => hr t (hrr2 t ht)) rfl (by decide) (by decide) hpp hs3 fun l hl => kkt l (hrr2 l hl)
  · obtain ⟨i, os, o11, hi, hrr, hlen, hos, rfl, rfl⟩ := h
    walk_at "lt"
    refine compL_mapA (f := fun _ : T3 => .bl false) rfl (by rw [List.length_nil]; exact szn (by omega)) (fun o ho k hk => ?_) ?_
    · obtain ⟨⟨X, X0, Xb, of⟩, ok2⟩ := hos o ho
      have q0 : 0 < N * 120 * X := Nat.mul_pos (by omega) X0
      have bX : B2 (N * 120 * X) 1000 := (bN.mul Xb).mono (by decide)
      have wX := fz3_mono wf (Nat.dvd_mul_right _ X) q0
      have oX := fz3_mono of (Nat.dvd_mul_left _ (N * 120)) q0
      refine ⟨⟨e, w, o⟩, rfl, distOk_of he bX wX oX, ⟨dist e w o, dist e w m⟩, rfl, pz_dist he bX bM wX oX wM mf, ?_⟩
      have hle := near_le he ok2
      dsimp only
      rw [decide_eq_false (Rat.not_lt.mpr hle)]
      exact hk
    · rw [List.nil_append, show os.map (fun _ : T3 => Val.bl false) = (os.map fun _ => false).map Val.bl by rw [List.map_map]; rfl, bf_anyL]
      have e1 : (os.map fun _ => false).any id = false := by
        rw [List.any_map]
        simp
      rw [e1]
      walk_at "lt"
      rw [Sto.set_del ha]
      exact hQ _ _ rfl hI (hP2.up (by dsimp only; omega))
  · rcases List.mem_append.mp ho with ho | ho
    · exact ro o ho
    · simp only [List.mem_cons, List.not_mem_nil, or_false] at ho
      rcases ho with rfl | rfl <;> assumption
def sp_law46 : ISp where
  run := fun vs S Q _ => ∃ ns : List Int, vs = [.scr ns] ∧ ∀ S', Q (.bl true) S'
  mono := fun hQ _ ⟨ns, h1, h2⟩ => ⟨ns, h1, fun S' => hQ _ _ (h2 S')⟩
theorem call_eye {p : Addr} {n : Nat} {S : Sto} {Q : VQ} {er : EQ} (hP : Pur S p n) (h64 : n < 2 ^ 68) (k : ∀ e S', Eye3 e → Ins S S' p → Pur S' p (n + 4) → Q (eyV e) S') : sp__law_eye.run [.adr p] S Q er :=
  ⟨p, (), n, rfl, hP, h64, trivial, fun v S' ⟨x, hv, hx⟩ hI hP' => by
    subst hv
    exact k x S' hx hI hP'⟩
theorem hsp_law46 {D : Nat → Li.G} {A : Addr → Str → Prop} (h300 : D 300 = .fn sp__law_cell 2 []) (h301 : D 301 = .fn sp__law_purse 1 []) (h302 : D 302 = .fn sp__law_pick 2 []) (h309 : D 309 = .fn sp__law_eye 1 []) (h317 : D 317 = .fn sp__law_right 4 []) (h384 : D 384 = .fn sp__law_lights 2 []) (h387 : D 387 = .fn sp__law_wish 2 []) (vs : List Val) (S : Sto) (Q : VQ) (R : EQ) (hl : vs.length = 1) (h : sp_law46.run vs S Q R) : evD { D := D, A := A, er := R } L46.b_law 6 [] vs S Q := by
  obtain ⟨ns, rfl, hQ⟩ := h
  unfold L46.b_law
  walk_at "lt"
  rw [h300, h301, h302, h309, h317, h384, h387]
  walk_at "lt"
  have hN : ∃ N : Nat, (if 2 < (if (ns.length : Int) < 3 then (ns.length : Int) else 3) then (if (ns.length : Int) < 3 then (ns.length : Int) else 3) else 2) = (N : Int) ∧ N ≤ 3 := by
    refine ⟨(if 2 < (if (ns.length : Int) < 3 then (ns.length : Int) else 3) then (if (ns.length : Int) < 3 then (ns.length : Int) else 3) else 2).toNat, ?_, ?_⟩ <;> split <;> split at * <;> omega
  obtain ⟨N, eN, N3⟩ := hN
  rw [eN]
  refine ⟨⟨by omega, by omega⟩, ?_⟩
  rw [show (N : Int).toNat = N by simp, rngV_range]
  refine forL_inv (fun r σ S' => ∃ (i : Nat) (o1 o2 o3 o4 o5 : Option Val), r = ((List.range N).drop i).map (fun k : Nat => Val.int (0 + k)) ∧ σ = [some (.scr ns), o1, o2, o3, o4, o5]) (fun _ _ _ _ => trivial) (fun v r σ S' nx h hn => ?_) (fun σ S' h => ?_) ⟨0, none, none, none, none, none, by rw [List.drop_zero], rfl⟩
  · obtain ⟨i, o1, o2, o3, o4, o5, hr, rfl⟩ := h
    have hi : i < N := by
      rcases Nat.lt_or_ge i N with z | z
      · exact z
      · rw [List.drop_eq_nil_of_le (by rw [List.length_range]; exact z)] at hr
        cases hr
    rw [List.drop_eq_getElem_cons (by rw [List.length_range]; exact hi), List.map_cons, List.getElem_range, Int.zero_add] at hr
    injection hr with hv hr
    subst hv
    walk_at "lt"
    refine ⟨ns, i, rfl, by omega, fun c => ⟨c, rfl, fun p S1 hp hI1 hP1 => ?_⟩⟩
    walk_at "lt"
    have idx : ∃ M : Int, L2.atI [Val.int 5, .int 3] (if decide (0 < (i : Int)) = true then 1 else 0) = some (.int M) ∧ 0 < M ∧ M ≤ 5 := by
      by_cases z : 0 < (i : Int)
      · rw [if_pos (decide_eq_true z)]
        exact ⟨3, rfl, by decide, by decide⟩
      · rw [if_neg (by simpa using z)]
        exact ⟨5, rfl, by decide, by decide⟩
    obtain ⟨M, eM, M0, M5⟩ := idx
    simp only [decide_eq_true_eq] at eM
    rw [eM]
    walk_at "lt"
    refine call_pick hP1 (by decide) M0 (by omega) fun t S2 t0 t1 hI2 hP2 => ?_
    walk_at "lt"
    refine call_eye hP2 (by decide) fun e S3 he hI3 hP3 => ?_
    walk_at "lt"
    obtain ⟨m, em, m1, m5⟩ : ∃ m : Nat, 1 + t = (m : Int) ∧ 1 ≤ m ∧ m ≤ 5 := ⟨(1 + t).toNat, by omega, by omega, by omega⟩
    rw [em]
    refine ⟨p, m, _, rfl, hP3, by decide, ⟨m1, m5⟩, fun v S4 ⟨rows, hv, hl, hrow⟩ hI4 hP4 => ?_⟩
    subst hv
    walk_at "lt"
    refine ⟨p, rows, _, rfl, hP4, (by dsimp only; omega), ⟨by omega, by omega, hrow⟩, fun v S5 ⟨w, NN, hv, NN0, NN61, hw, hd⟩ hI5 hP5 => ?_⟩
    subst hv
    refine ⟨p, (rows, w, e), _, rfl, hP5, (by dsimp only; omega), ⟨by dsimp only; omega, by dsimp only; omega, hrow, he, hw, NN, NN0, NN61, hd⟩, fun v S6 hv hI6 hP6 => ?_⟩
    subst hv
    walk_at "lt"
    exact hn _ _ ⟨i + 1, _, _, _, _, _, hr, rfl⟩
  · obtain ⟨i, o1, o2, o3, o4, o5, hr, rfl⟩ := h
    walk_at "lt"
    exact hQ _
end Li
set_option Elab.async false
set_option linter.all false
set_option maxRecDepth 100000
set_option maxHeartbeats 0
namespace L46
open PySem PySem.Spec PyProof.Rows Li L2
/-- the fields that instances have -/
def At (C : Nat → Addr) (a : Addr) (f : Str) : Prop := (a = C 24 ∧ f ∈ shadeF)
section
variable {m : Mo} {C : Nat → Addr}
theorem g12 (B : Bs m fn (At C))  : GOk m 1 (nm 12) (.fn sp_is_whole 1 []) :=
  B.fn (T := { N := Pt.N_is_whole, gn := gn }) (lvl := 0) (fr := []) (l := []) 0 rfl rfl (by kernel_rfl) rfl (fun _ _ _ _ => rfl) d_is_whole c_is_whole trivial (hsp_is_whole  ) (dfl_none rfl fun kV doc pm an cdv ct us hl => match us, hl with | [_], _ => rfl)
theorem g13 (B : Bs m fn (At C))  : GOk m 1 (nm 13) (.fn sp_share_of 2 []) :=
  B.fn (T := { N := Pt.N_share_of, gn := gn }) (lvl := 0) (fr := []) (l := []) 1 rfl rfl (by kernel_rfl) rfl (fun _ _ _ _ => rfl) d_share_of c_share_of trivial (hsp_share_of  ) (dfl_none rfl fun kV doc pm an cdv ct us hl => match us, hl with | [_, _], _ => rfl)
theorem g14 (B : Bs m fn (At C)) (h13 : GOk m 1 (nm 13) (.fn sp_share_of 2 [])) : GOk m 2 (nm 14) (.fn sp_low 2 []) :=
  B.fn (T := { N := Pt.N_low, gn := gn }) (lvl := 1) (fr := []) (l := [(13, .fn sp_share_of 2 [])]) 2 rfl rfl (by kernel_rfl) rfl (fun _ _ _ _ => rfl) d_low c_low ⟨(h13).up (by decide), trivial⟩ (hsp_low rfl ) (dfl_none rfl fun kV doc pm an cdv ct us hl => match us, hl with | [_, _], _ => rfl)
theorem g15 (B : Bs m fn (At C)) (h12 : GOk m 1 (nm 12) (.fn sp_is_whole 1 [])) (h13 : GOk m 1 (nm 13) (.fn sp_share_of 2 [])) : GOk m 2 (nm 15) (.fn sp_is_fraction 1 []) :=
  B.fn (T := { N := Pt.N_is_fraction, gn := gn }) (lvl := 1) (fr := []) (l := [(12, .fn sp_is_whole 1 []), (13, .fn sp_share_of 2 [])]) 3 rfl rfl (by kernel_rfl) rfl (fun _ _ _ _ => rfl) d_is_fraction c_is_fraction ⟨(h12).up (by decide), ⟨(h13).up (by decide), trivial⟩⟩ (hsp_is_fraction rfl rfl ) (dfl_none rfl fun kV doc pm an cdv ct us hl => match us, hl with | [_], _ => rfl)
theorem g16 (B : Bs m fn (At C)) (h15 : GOk m 2 (nm 15) (.fn sp_is_fraction 1 [])) : GOk m 3 (nm 16) (.fn sp_from_zero 1 []) :=
  B.fn (T := { N := Pt.N_from_zero, gn := gn }) (lvl := 2) (fr := []) (l := [(15, .fn sp_is_fraction 1 [])]) 4 rfl rfl (by kernel_rfl) rfl (fun _ _ _ _ => rfl) d_from_zero c_from_zero ⟨(h15).up (by decide), trivial⟩ (hsp_from_zero rfl ) (dfl_none rfl fun kV doc pm an cdv ct us hl => match us, hl with | [_], _ => rfl)
theorem g17 (B : Bs m fn (At C)) (h16 : GOk m 3 (nm 16) (.fn sp_from_zero 1 [])) : GOk m 4 (nm 17) (.fn sp_in_one 1 []) :=
  B.fn (T := { N := Pt.N_in_one, gn := gn }) (lvl := 3) (fr := []) (l := [(16, .fn sp_from_zero 1 [])]) 5 rfl rfl (by kernel_rfl) rfl (fun _ _ _ _ => rfl) d_in_one c_in_one ⟨(h16).up (by decide), trivial⟩ (hsp_in_one rfl ) (dfl_none rfl fun kV doc pm an cdv ct us hl => match us, hl with | [_], _ => rfl)
theorem g18 (B : Bs m fn (At C)) (h14 : GOk m 2 (nm 14) (.fn sp_low 2 [])) : GOk m 3 (nm 18) (.fn sp_add 2 []) :=
  B.fn (T := { N := Pt.N_add, gn := gn }) (lvl := 2) (fr := []) (l := [(14, .fn sp_low 2 [])]) 6 rfl rfl (by kernel_rfl) rfl (fun _ _ _ _ => rfl) d_add c_add ⟨(h14).up (by decide), trivial⟩ (hsp_add rfl ) (dfl_none rfl fun kV doc pm an cdv ct us hl => match us, hl with | [_, _], _ => rfl)
theorem g19 (B : Bs m fn (At C)) (h14 : GOk m 2 (nm 14) (.fn sp_low 2 [])) : GOk m 3 (nm 19) (.fn sp_less 2 []) :=
  B.fn (T := { N := Pt.N_less, gn := gn }) (lvl := 2) (fr := []) (l := [(14, .fn sp_low 2 [])]) 7 rfl rfl (by kernel_rfl) rfl (fun _ _ _ _ => rfl) d_less c_less ⟨(h14).up (by decide), trivial⟩ (hsp_less rfl ) (dfl_none rfl fun kV doc pm an cdv ct us hl => match us, hl with | [_, _], _ => rfl)
theorem g20 (B : Bs m fn (At C)) (h14 : GOk m 2 (nm 14) (.fn sp_low 2 [])) : GOk m 3 (nm 20) (.fn sp_mul 2 []) :=
  B.fn (T := { N := Pt.N_mul, gn := gn }) (lvl := 2) (fr := []) (l := [(14, .fn sp_low 2 [])]) 8 rfl rfl (by kernel_rfl) rfl (fun _ _ _ _ => rfl) d_mul c_mul ⟨(h14).up (by decide), trivial⟩ (hsp_mul rfl ) (dfl_none rfl fun kV doc pm an cdv ct us hl => match us, hl with | [_, _], _ => rfl)
theorem g22 (B : Bs m fn (At C)) (h11 : GOk m 0 (nm 11) (.val (.tup ([0, 1].map Val.int)))) (h18 : GOk m 3 (nm 18) (.fn sp_add 2 [])) : GOk m 4 (nm 22) (.fn sp_total 1 []) :=
  B.fn (T := { N := Pt.N_total, gn := gn }) (lvl := 3) (fr := []) (l := [(11, .val (.tup ([0, 1].map Val.int))), (18, .fn sp_add 2 [])]) 9 rfl rfl (by kernel_rfl) rfl (fun _ _ _ _ => rfl) d_total c_total ⟨(h11).up (by decide), ⟨(h18).up (by decide), trivial⟩⟩ (hsp_total rfl rfl ) (dfl_none rfl fun kV doc pm an cdv ct us hl => match us, hl with | [_], _ => rfl)
theorem g24 (B : Bs m fn (At C)) (hmg : m.mg ("Shade" : Str) = some (.ref (He.ga m.K ("Shade" : Str)))) (hmk : Mk m.K (He.ga m.K ("Shade" : Str)) (He.ma m.K (He.ga m.K ("Shade" : Str)) "__init__")) (hco : ClsOk m.K (He.ga m.K ("Shade" : Str))) (hC : C 24 = He.ga m.K ("Shade" : Str)) (h17 : GOk m 4 (nm 17) (.fn sp_in_one 1 [])) : GOk m 6 (nm 24) (.cls (C 24) true (sp_Shade___init__ (C 24)) 4 []) := by
  have z := B.cls (g := 24) (n := 4) (sp := (sp_Shade___init__ (C 24))) (fz := true) (T := { N := Pt.N_Shade.__init__, gn := gn }) (lvl := 4) (fr := []) (l := [(17, .fn sp_in_one 1 [])]) 10 rfl rfl (by kernel_rfl) rfl (fun _ _ _ _ => rfl) d_Shade.__init__ c_Shade.__init__ ⟨(h17).up (by decide), trivial⟩ (hsp_Shade___init__ rfl (fun f hf => ⟨rfl, hf⟩)) (dfl_none rfl fun kV doc pm an cdv ct us hl => match us, hl with | [_, _, _, _], _ => rfl) hmg hmk hco
  rw [← hC] at z
  exact z
theorem g104 (B : Bs m fn (At C)) (h24 : GOk m 6 (nm 24) (.cls (C 24) true (sp_Shade___init__ (C 24)) 4 [])) : GOk m 7 (nm 104) (.fn (sp_is_shade (C 24)) 1 []) :=
  B.fn (T := { N := Pt.N_is_shade, gn := gn }) (lvl := 6) (fr := []) (l := [(24, .cls (C 24) true (sp_Shade___init__ (C 24)) 4 [])]) 11 rfl rfl (by kernel_rfl) rfl (fun _ _ _ _ => rfl) d_is_shade c_is_shade ⟨(h24).up (by decide), trivial⟩ (hsp_is_shade rfl ) (dfl_none rfl fun kV doc pm an cdv ct us hl => match us, hl with | [_], _ => rfl)
theorem g25 (B : Bs m fn (At C)) (h24 : GOk m 6 (nm 24) (.cls (C 24) true (sp_Shade___init__ (C 24)) 4 [])) : GOk m 7 (nm 25) (.fn (sp_check_shade (C 24)) 1 []) :=
  B.fn (T := { N := Pt.N_check_shade, gn := gn }) (lvl := 6) (fr := []) (l := [(24, .cls (C 24) true (sp_Shade___init__ (C 24)) 4 [])]) 12 rfl rfl (by kernel_rfl) rfl (fun _ _ _ _ => rfl) d_check_shade c_check_shade ⟨(h24).up (by decide), trivial⟩ (hsp_check_shade rfl ) (dfl_none rfl fun kV doc pm an cdv ct us hl => match us, hl with | [_], _ => rfl)
theorem g26 (B : Bs m fn (At C))  : GOk m 1 (nm 26) (.fn (sp_parts_of (C 24)) 1 []) :=
  B.fn (T := { N := Pt.N_parts_of, gn := gn }) (lvl := 0) (fr := []) (l := []) 13 rfl rfl (by kernel_rfl) rfl (fun _ _ _ _ => rfl) d_parts_of c_parts_of trivial (hsp_parts_of  (fun f hf => ⟨rfl, hf⟩)) (dfl_none rfl fun kV doc pm an cdv ct us hl => match us, hl with | [_], _ => rfl)
theorem g47 (B : Bs m fn (At C)) (h24 : GOk m 6 (nm 24) (.cls (C 24) true (sp_Shade___init__ (C 24)) 4 [])) : GOk m 7 (nm 47) (.fn (sp_shade_by (C 24)) 1 []) :=
  B.fn (T := { N := Pt.N_shade_by, gn := gn }) (lvl := 6) (fr := []) (l := [(24, .cls (C 24) true (sp_Shade___init__ (C 24)) 4 [])]) 14 rfl rfl (by kernel_rfl) rfl (fun _ _ _ _ => rfl) d_shade_by c_shade_by ⟨(h24).up (by decide), trivial⟩ (hsp_shade_by rfl ) (dfl_none rfl fun kV doc pm an cdv ct us hl => match us, hl with | [_], _ => rfl)
theorem g30 (B : Bs m fn (At C)) (h12 : GOk m 1 (nm 12) (.fn sp_is_whole 1 [])) (h28 : GOk m 0 (nm 28) (.val (.int 99))) (h29 : GOk m 0 (nm 29) (.val (.tup ([1, 1, 1].map Val.int)))) : GOk m 2 (nm 30) (.fn sp_is_eye 1 []) :=
  B.fn (T := { N := Pt.N_is_eye, gn := gn }) (lvl := 1) (fr := []) (l := [(12, .fn sp_is_whole 1 []), (28, .val (.int 99)), (29, .val (.tup ([1, 1, 1].map Val.int)))]) 15 rfl rfl (by kernel_rfl) rfl (fun _ _ _ _ => rfl) d_is_eye c_is_eye ⟨(h12).up (by decide), ⟨(h28).up (by decide), ⟨(h29).up (by decide), trivial⟩⟩⟩ (hsp_is_eye rfl rfl rfl ) (dfl_none rfl fun kV doc pm an cdv ct us hl => match us, hl with | [_], _ => rfl)
theorem g31 (B : Bs m fn (At C)) (h29 : GOk m 0 (nm 29) (.val (.tup ([1, 1, 1].map Val.int)))) (h30 : GOk m 2 (nm 30) (.fn sp_is_eye 1 [])) : GOk m 3 (nm 31) (.fn sp_check_eye 1 []) :=
  B.fn (T := { N := Pt.N_check_eye, gn := gn }) (lvl := 2) (fr := []) (l := [(29, .val (.tup ([1, 1, 1].map Val.int))), (30, .fn sp_is_eye 1 [])]) 16 rfl rfl (by kernel_rfl) rfl (fun _ _ _ _ => rfl) d_check_eye c_check_eye ⟨(h29).up (by decide), ⟨(h30).up (by decide), trivial⟩⟩ (hsp_check_eye rfl rfl ) (dfl_none rfl fun kV doc pm an cdv ct us hl => match us, hl with | [_], _ => rfl)
theorem g32 (B : Bs m fn (At C)) (Bt : Bt m tf) (hm : ((He.cT m.K (("far_by" : Str), none)).2, tn_far_by) ∈ m.T) (hu : ∀ p ∈ m.T, p.1 = (He.cT m.K (("far_by" : Str), none)).2 → p.2 = tn_far_by) (h19 : GOk m 3 (nm 19) (.fn sp_less 2 [])) (h20 : GOk m 3 (nm 20) (.fn sp_mul 2 [])) (h22 : GOk m 4 (nm 22) (.fn sp_total 1 [])) : GOk m 6 (nm 32) (.fn sp_far_by 3 []) :=
  B.fnN Bt (N := Pt.N_far_by) (gn := gn) (nds := nd_far_by (sp_far_by_part)) (lvl := 4) (fr := []) (l := [(19, .fn sp_less 2 []), (20, .fn sp_mul 2 []), (22, .fn sp_total 1 [])]) 17 rfl rfl (by kernel_rfl) rfl (by decide) hm hu d_far_by (c_far_by _) (by unfold nd_far_by; simp [Pt.nc_far_by_part]) (fun e he => by
      unfold nd_far_by at he
      cases List.mem_singleton.mp he
      exact nbind fun _ _ _ _ _ _ _ _ _ _ _ => rfl) ⟨(h19).up (by decide), ⟨(h20).up (by decide), ⟨(h22).up (by decide), trivial⟩⟩⟩
    (fun e he => by
      unfold nd_far_by at he
      cases List.mem_singleton.mp he
      exact hsp_far_by_part rfl rfl rfl ) (fun okp => hsp_far_by rfl rfl rfl  rfl) (dfl_none rfl fun kV doc pm an cdv ct us hl => match us, hl with | [_, _, _], _ => rfl)
theorem g120 (B : Bs m fn (At C)) (h25 : GOk m 7 (nm 25) (.fn (sp_check_shade (C 24)) 1 [])) (h26 : GOk m 1 (nm 26) (.fn (sp_parts_of (C 24)) 1 [])) (h31 : GOk m 3 (nm 31) (.fn sp_check_eye 1 [])) (h32 : GOk m 6 (nm 32) (.fn sp_far_by 3 [])) : GOk m 8 (nm 120) (.fn (sp_far (C 24)) 3 [.non]) :=
  B.fn (T := { N := Pt.N_far, gn := gn }) (lvl := 7) (fr := []) (l := [(25, .fn (sp_check_shade (C 24)) 1 []), (26, .fn (sp_parts_of (C 24)) 1 []), (31, .fn sp_check_eye 1 []), (32, .fn sp_far_by 3 [])]) 18 rfl rfl (by kernel_rfl) rfl (fun _ _ _ _ => rfl) d_far c_far ⟨(h25).up (by decide), ⟨(h26).up (by decide), ⟨(h31).up (by decide), ⟨(h32).up (by decide), trivial⟩⟩⟩⟩ (hsp_far rfl rfl rfl rfl ) (dfl_one rfl rfl 2 rfl (fun T kV doc pm an cdv ct us its h1 h2 => match us, its, h1, h2 with | [_, _, _], [_], _, _ => ⟨_, rfl, rfl⟩) fun T kV doc pm an cdv ct us its h1 h2 => match us, its, h1, h2 with | [_, _], [_], _, _ => ⟨_, rfl, rfl⟩)
theorem g251 (B : Bs m fn (At C)) (h25 : GOk m 7 (nm 25) (.fn (sp_check_shade (C 24)) 1 [])) (h26 : GOk m 1 (nm 26) (.fn (sp_parts_of (C 24)) 1 [])) (h31 : GOk m 3 (nm 31) (.fn sp_check_eye 1 [])) (h32 : GOk m 6 (nm 32) (.fn sp_far_by 3 [])) : GOk m 8 (nm 251) (.fnk (sp_far (C 24)) 3 2 [("eye" : Str)]) :=
  B.fnk (T := { N := Pt.N_far, gn := gn }) (lvl := 7) (fr := []) (l := [(25, .fn (sp_check_shade (C 24)) 1 []), (26, .fn (sp_parts_of (C 24)) 1 []), (31, .fn sp_check_eye 1 []), (32, .fn sp_far_by 3 [])]) 18 rfl rfl (by kernel_rfl) rfl (fun _ _ _ _ => rfl) d_far c_far ⟨(h25).up (by decide), ⟨(h26).up (by decide), ⟨(h31).up (by decide), ⟨(h32).up (by decide), trivial⟩⟩⟩⟩ (hsp_far rfl rfl rfl rfl ) (kb_one rfl 2 (fun T kV doc pm an cdv ct us its ws h1 h2 h3 => match us, its, ws, h1, h2, h3 with | [_, _], [_], [_], _, _, _ => ⟨_, rfl, rfl⟩))
theorem g107 (B : Bs m fn (At C)) (h104 : GOk m 7 (nm 104) (.fn (sp_is_shade (C 24)) 1 [])) (h105 : GOk m 0 (nm 105) (.val (.int 5))) : GOk m 8 (nm 107) (.fn (sp_check_lights (C 24)) 1 []) :=
  B.fn (T := { N := Pt.N_check_lights, gn := gn }) (lvl := 7) (fr := []) (l := [(104, .fn (sp_is_shade (C 24)) 1 []), (105, .val (.int 5))]) 19 rfl rfl (by kernel_rfl) rfl (fun _ _ _ _ => rfl) d_check_lights c_check_lights ⟨(h104).up (by decide), ⟨(h105).up (by decide), trivial⟩⟩ (hsp_check_lights rfl rfl ) (dfl_none rfl fun kV doc pm an cdv ct us hl => match us, hl with | [_], _ => rfl)
theorem g108 (B : Bs m fn (At C)) (h19 : GOk m 3 (nm 19) (.fn sp_less 2 [])) : GOk m 4 (nm 108) (.fn sp_gaps 2 []) :=
  B.fn (T := { N := Pt.N_gaps, gn := gn }) (lvl := 3) (fr := []) (l := [(19, .fn sp_less 2 [])]) 20 rfl rfl (by kernel_rfl) rfl (fun _ _ _ _ => rfl) d_gaps c_gaps ⟨(h19).up (by decide), trivial⟩ (hsp_gaps rfl ) (dfl_none rfl fun kV doc pm an cdv ct us hl => match us, hl with | [_, _], _ => rfl)
theorem g109 (B : Bs m fn (At C)) (h20 : GOk m 3 (nm 20) (.fn sp_mul 2 [])) (h22 : GOk m 4 (nm 22) (.fn sp_total 1 [])) : GOk m 5 (nm 109) (.fn sp_made_by 2 []) :=
  B.fn (T := { N := Pt.N_made_by, gn := gn }) (lvl := 4) (fr := []) (l := [(20, .fn sp_mul 2 []), (22, .fn sp_total 1 [])]) 21 rfl rfl (by kernel_rfl) rfl (fun _ _ _ _ => rfl) d_made_by c_made_by ⟨(h20).up (by decide), ⟨(h22).up (by decide), trivial⟩⟩ (hsp_made_by rfl rfl ) (dfl_none rfl fun kV doc pm an cdv ct us hl => match us, hl with | [_, _], _ => rfl)
theorem g110 (B : Bs m fn (At C)) (h13 : GOk m 1 (nm 13) (.fn sp_share_of 2 [])) : GOk m 2 (nm 110) (.fn sp_common_bottom 1 []) :=
  B.fn (T := { N := Pt.N_common_bottom, gn := gn }) (lvl := 1) (fr := []) (l := [(13, .fn sp_share_of 2 [])]) 22 rfl rfl (by kernel_rfl) rfl (fun _ _ _ _ => rfl) d_common_bottom c_common_bottom ⟨(h13).up (by decide), trivial⟩ (hsp_common_bottom rfl ) (dfl_none rfl fun kV doc pm an cdv ct us hl => match us, hl with | [_], _ => rfl)
theorem g111 (B : Bs m fn (At C)) (Bt : Bt m tf) (hm : ((He.cT m.K (("products_of" : Str), none)).2, tn_products_of) ∈ m.T) (hu : ∀ p ∈ m.T, p.1 = (He.cT m.K (("products_of" : Str), none)).2 → p.2 = tn_products_of) (h110 : GOk m 2 (nm 110) (.fn sp_common_bottom 1 [])) : GOk m 4 (nm 111) (.fn sp_products_of 3 []) :=
  B.fnN Bt (N := Pt.N_products_of) (gn := gn) (nds := nd_products_of (sp_products_of_whole)) (lvl := 2) (fr := []) (l := [(110, .fn sp_common_bottom 1 [])]) 23 rfl rfl (by kernel_rfl) rfl (by decide) hm hu d_products_of (c_products_of _) (by unfold nd_products_of; simp [Pt.nc_products_of_whole]) (fun e he => by
      unfold nd_products_of at he
      cases List.mem_singleton.mp he
      exact nbind fun _ _ _ _ _ _ _ _ _ _ _ => rfl) ⟨(h110).up (by decide), trivial⟩
    (fun e he => by
      unfold nd_products_of at he
      cases List.mem_singleton.mp he
      exact hsp_products_of_whole rfl ) (fun okp => hsp_products_of rfl  rfl) (dfl_none rfl fun kV doc pm an cdv ct us hl => match us, hl with | [_, _, _], _ => rfl)
theorem g112 (B : Bs m (fn) (At C))  : ∀ j, GOk m (0 + (j + 1)) (nm 112) (.fn (sp_size_of j) 1 [])
  | 0 => B.fn (T := { N := Pt.N_size_of, gn := gn }) (lvl := 0 + 0) (fr := []) (l := [(112, .none)]) 24 rfl rfl (by kernel_rfl) rfl (fun _ _ _ _ => rfl) d_size_of c_size_of ⟨trivial, trivial⟩ (hsp_size_of0 ) (dfl_none rfl fun kV doc pm an cdv ct us hl => match us, hl with | [_], _ => rfl)
  | j + 1 => B.fn (T := { N := Pt.N_size_of, gn := gn }) (lvl := 0 + (j + 1)) (fr := []) (l := [(112, .fn (sp_size_of j) 1 [])]) 24 rfl rfl (by kernel_rfl) rfl (fun _ _ _ _ => rfl) d_size_of c_size_of ⟨g112 B  j, trivial⟩ (hsp_size_ofs  rfl) (dfl_none rfl fun kV doc pm an cdv ct us hl => match us, hl with | [_], _ => rfl)
theorem g113 (B : Bs m fn (At C)) (h112 : GOk m 5 (nm 112) (.fn (sp_size_of 4) 1 [])) : GOk m 6 (nm 113) (.fn sp_foot_of 2 []) :=
  B.fn (T := { N := Pt.N_foot_of, gn := gn }) (lvl := 5) (fr := [7]) (l := [(112, .fn (sp_size_of 4) 1 [])]) 25 rfl rfl (by kernel_rfl) rfl (fun _ _ _ _ => rfl) d_foot_of c_foot_of ⟨(h112).up (by decide), trivial⟩ (hsp_foot_of rfl ) (dfl_none rfl fun kV doc pm an cdv ct us hl => match us, hl with | [_, _], _ => rfl)
theorem g114 (B : Bs m fn (At C))  : GOk m 1 (nm 114) (.fn sp_is_foot 4 []) :=
  B.fn (T := { N := Pt.N_is_foot, gn := gn }) (lvl := 0) (fr := []) (l := []) 26 rfl rfl (by kernel_rfl) rfl (fun _ _ _ _ => rfl) d_is_foot c_is_foot trivial (hsp_is_foot  ) (dfl_none rfl fun kV doc pm an cdv ct us hl => match us, hl with | [_, _, _, _], _ => rfl)
theorem g115 (B : Bs m fn (At C)) (h106 : GOk m 0 (nm 106) (.val (.int 4))) : GOk m 1 (nm 115) (.fn sp_choices 1 []) :=
  B.fn (T := { N := Pt.N_choices, gn := gn }) (lvl := 0) (fr := []) (l := [(106, .val (.int 4))]) 27 rfl rfl (by kernel_rfl) rfl (fun _ _ _ _ => rfl) d_choices c_choices ⟨(h106).up (by decide), trivial⟩ (hsp_choices rfl ) (dfl_none rfl fun kV doc pm an cdv ct us hl => match us, hl with | [_], _ => rfl)
theorem g116 (B : Bs m fn (At C)) (h14 : GOk m 2 (nm 14) (.fn sp_low 2 [])) (h109 : GOk m 5 (nm 109) (.fn sp_made_by 2 [])) (h111 : GOk m 4 (nm 111) (.fn sp_products_of 3 [])) (h113 : GOk m 6 (nm 113) (.fn sp_foot_of 2 [])) (h114 : GOk m 1 (nm 114) (.fn sp_is_foot 4 [])) (h115 : GOk m 1 (nm 115) (.fn sp_choices 1 [])) : GOk m 7 (nm 116) (.fn sp_nearest_by 3 []) :=
  B.fn (T := { N := Pt.N_nearest_by, gn := gn }) (lvl := 6) (fr := []) (l := [(14, .fn sp_low 2 []), (109, .fn sp_made_by 2 []), (111, .fn sp_products_of 3 []), (113, .fn sp_foot_of 2 []), (114, .fn sp_is_foot 4 []), (115, .fn sp_choices 1 [])]) 28 rfl rfl (by kernel_rfl) rfl (fun _ _ _ _ => rfl) d_nearest_by c_nearest_by ⟨(h14).up (by decide), ⟨(h109).up (by decide), ⟨(h111).up (by decide), ⟨(h113).up (by decide), ⟨(h114).up (by decide), ⟨(h115).up (by decide), trivial⟩⟩⟩⟩⟩⟩ (hsp_nearest_by rfl rfl rfl rfl rfl rfl ) (dfl_none rfl fun kV doc pm an cdv ct us hl => match us, hl with | [_, _, _], _ => rfl)
theorem g117 (B : Bs m fn (At C)) (h20 : GOk m 3 (nm 20) (.fn sp_mul 2 [])) (h22 : GOk m 4 (nm 22) (.fn sp_total 1 [])) (h108 : GOk m 4 (nm 108) (.fn sp_gaps 2 [])) : GOk m 5 (nm 117) (.fn sp_line_by 3 []) :=
  B.fn (T := { N := Pt.N_line_by, gn := gn }) (lvl := 4) (fr := []) (l := [(20, .fn sp_mul 2 []), (22, .fn sp_total 1 []), (108, .fn sp_gaps 2 [])]) 29 rfl rfl (by kernel_rfl) rfl (fun _ _ _ _ => rfl) d_line_by c_line_by ⟨(h20).up (by decide), ⟨(h22).up (by decide), ⟨(h108).up (by decide), trivial⟩⟩⟩ (hsp_line_by rfl rfl rfl ) (dfl_none rfl fun kV doc pm an cdv ct us hl => match us, hl with | [_, _, _], _ => rfl)
theorem g118 (B : Bs m fn (At C)) (h25 : GOk m 7 (nm 25) (.fn (sp_check_shade (C 24)) 1 [])) (h26 : GOk m 1 (nm 26) (.fn (sp_parts_of (C 24)) 1 [])) (h31 : GOk m 3 (nm 31) (.fn sp_check_eye 1 [])) (h47 : GOk m 7 (nm 47) (.fn (sp_shade_by (C 24)) 1 [])) (h107 : GOk m 8 (nm 107) (.fn (sp_check_lights (C 24)) 1 [])) (h116 : GOk m 7 (nm 116) (.fn sp_nearest_by 3 [])) (h117 : GOk m 5 (nm 117) (.fn sp_line_by 3 [])) : GOk m 9 (nm 118) (.fn (sp_make (C 24)) 3 [.non]) :=
  B.fn (T := { N := Pt.N_make, gn := gn }) (lvl := 8) (fr := []) (l := [(25, .fn (sp_check_shade (C 24)) 1 []), (26, .fn (sp_parts_of (C 24)) 1 []), (31, .fn sp_check_eye 1 []), (47, .fn (sp_shade_by (C 24)) 1 []), (107, .fn (sp_check_lights (C 24)) 1 []), (116, .fn sp_nearest_by 3 []), (117, .fn sp_line_by 3 [])]) 30 rfl rfl (by kernel_rfl) rfl (fun _ _ _ _ => rfl) d_make c_make ⟨(h25).up (by decide), ⟨(h26).up (by decide), ⟨(h31).up (by decide), ⟨(h47).up (by decide), ⟨(h107).up (by decide), ⟨(h116).up (by decide), ⟨(h117).up (by decide), trivial⟩⟩⟩⟩⟩⟩⟩ (hsp_make rfl rfl rfl rfl rfl rfl rfl ) (dfl_one rfl rfl 2 rfl (fun T kV doc pm an cdv ct us its h1 h2 => match us, its, h1, h2 with | [_, _, _], [_], _, _ => ⟨_, rfl, rfl⟩) fun T kV doc pm an cdv ct us its h1 h2 => match us, its, h1, h2 with | [_, _], [_], _, _ => ⟨_, rfl, rfl⟩)
theorem g250 (B : Bs m fn (At C)) (h25 : GOk m 7 (nm 25) (.fn (sp_check_shade (C 24)) 1 [])) (h26 : GOk m 1 (nm 26) (.fn (sp_parts_of (C 24)) 1 [])) (h31 : GOk m 3 (nm 31) (.fn sp_check_eye 1 [])) (h47 : GOk m 7 (nm 47) (.fn (sp_shade_by (C 24)) 1 [])) (h107 : GOk m 8 (nm 107) (.fn (sp_check_lights (C 24)) 1 [])) (h116 : GOk m 7 (nm 116) (.fn sp_nearest_by 3 [])) (h117 : GOk m 5 (nm 117) (.fn sp_line_by 3 [])) : GOk m 9 (nm 250) (.fnk (sp_make (C 24)) 3 2 [("eye" : Str)]) :=
  B.fnk (T := { N := Pt.N_make, gn := gn }) (lvl := 8) (fr := []) (l := [(25, .fn (sp_check_shade (C 24)) 1 []), (26, .fn (sp_parts_of (C 24)) 1 []), (31, .fn sp_check_eye 1 []), (47, .fn (sp_shade_by (C 24)) 1 []), (107, .fn (sp_check_lights (C 24)) 1 []), (116, .fn sp_nearest_by 3 []), (117, .fn sp_line_by 3 [])]) 30 rfl rfl (by kernel_rfl) rfl (fun _ _ _ _ => rfl) d_make c_make ⟨(h25).up (by decide), ⟨(h26).up (by decide), ⟨(h31).up (by decide), ⟨(h47).up (by decide), ⟨(h107).up (by decide), ⟨(h116).up (by decide), ⟨(h117).up (by decide), trivial⟩⟩⟩⟩⟩⟩⟩ (hsp_make rfl rfl rfl rfl rfl rfl rfl ) (kb_one rfl 2 (fun T kV doc pm an cdv ct us its ws h1 h2 h3 => match us, its, ws, h1, h2, h3 with | [_, _], [_], [_], _, _, _ => ⟨_, rfl, rfl⟩))
theorem g300 (B : Bs m fn (At C))  : GOk m 1 (nm 300) (.fn sp__law_cell 2 []) :=
  B.fn (T := { N := Lt.N__law_cell, gn := gn }) (lvl := 0) (fr := []) (l := []) 31 rfl rfl (by kernel_rfl) rfl (fun _ _ _ _ => rfl) d__law_cell c__law_cell trivial (hsp__law_cell  ) (dfl_none rfl fun kV doc pm an cdv ct us hl => match us, hl with | [_, _], _ => rfl)
theorem g301 (B : Bs m fn (At C))  : GOk m 1 (nm 301) (.fn sp__law_purse 1 []) :=
  B.fn (T := { N := Lt.N__law_purse, gn := gn }) (lvl := 0) (fr := []) (l := []) 32 rfl rfl (by kernel_rfl) rfl (fun _ _ _ _ => rfl) d__law_purse c__law_purse trivial (hsp__law_purse  ) (dfl_none rfl fun kV doc pm an cdv ct us hl => match us, hl with | [_], _ => rfl)
theorem g302 (B : Bs m fn (At C))  : GOk m 1 (nm 302) (.fn sp__law_pick 2 []) :=
  B.fn (T := { N := Lt.N__law_pick, gn := gn }) (lvl := 0) (fr := []) (l := []) 33 rfl rfl (by kernel_rfl) rfl (fun _ _ _ _ => rfl) d__law_pick c__law_pick trivial (hsp__law_pick  ) (dfl_none rfl fun kV doc pm an cdv ct us hl => match us, hl with | [_, _], _ => rfl)
theorem g303 (B : Bs m fn (At C))  : GOk m 1 (nm 303) (.fn sp__law_low 2 []) :=
  B.fn (T := { N := Lt.N__law_low, gn := gn }) (lvl := 0) (fr := []) (l := []) 34 rfl rfl (by kernel_rfl) rfl (fun _ _ _ _ => rfl) d__law_low c__law_low trivial (hsp__law_low  ) (dfl_none rfl fun kV doc pm an cdv ct us hl => match us, hl with | [_, _], _ => rfl)
theorem g304 (B : Bs m fn (At C)) (h303 : GOk m 1 (nm 303) (.fn sp__law_low 2 [])) : GOk m 2 (nm 304) (.fn sp__law_plus 2 []) :=
  B.fn (T := { N := Lt.N__law_plus, gn := gn }) (lvl := 1) (fr := []) (l := [(303, .fn sp__law_low 2 [])]) 35 rfl rfl (by kernel_rfl) rfl (fun _ _ _ _ => rfl) d__law_plus c__law_plus ⟨(h303).up (by decide), trivial⟩ (hsp__law_plus rfl ) (dfl_none rfl fun kV doc pm an cdv ct us hl => match us, hl with | [_, _], _ => rfl)
theorem g305 (B : Bs m fn (At C)) (h303 : GOk m 1 (nm 303) (.fn sp__law_low 2 [])) : GOk m 2 (nm 305) (.fn sp__law_minus 2 []) :=
  B.fn (T := { N := Lt.N__law_minus, gn := gn }) (lvl := 1) (fr := []) (l := [(303, .fn sp__law_low 2 [])]) 36 rfl rfl (by kernel_rfl) rfl (fun _ _ _ _ => rfl) d__law_minus c__law_minus ⟨(h303).up (by decide), trivial⟩ (hsp__law_minus rfl ) (dfl_none rfl fun kV doc pm an cdv ct us hl => match us, hl with | [_, _], _ => rfl)
theorem g306 (B : Bs m fn (At C)) (h303 : GOk m 1 (nm 303) (.fn sp__law_low 2 [])) : GOk m 2 (nm 306) (.fn sp__law_times 2 []) :=
  B.fn (T := { N := Lt.N__law_times, gn := gn }) (lvl := 1) (fr := []) (l := [(303, .fn sp__law_low 2 [])]) 37 rfl rfl (by kernel_rfl) rfl (fun _ _ _ _ => rfl) d__law_times c__law_times ⟨(h303).up (by decide), trivial⟩ (hsp__law_times rfl ) (dfl_none rfl fun kV doc pm an cdv ct us hl => match us, hl with | [_, _], _ => rfl)
theorem g307 (B : Bs m fn (At C))  : GOk m 1 (nm 307) (.fn sp__law_below 2 []) :=
  B.fn (T := { N := Lt.N__law_below, gn := gn }) (lvl := 0) (fr := []) (l := []) 38 rfl rfl (by kernel_rfl) rfl (fun _ _ _ _ => rfl) d__law_below c__law_below trivial (hsp__law_below  ) (dfl_none rfl fun kV doc pm an cdv ct us hl => match us, hl with | [_, _], _ => rfl)
theorem g308 (B : Bs m fn (At C)) (h302 : GOk m 1 (nm 302) (.fn sp__law_pick 2 [])) (h303 : GOk m 1 (nm 303) (.fn sp__law_low 2 [])) : GOk m 2 (nm 308) (.fn sp__law_plain_share 1 []) :=
  B.fn (T := { N := Lt.N__law_plain_share, gn := gn }) (lvl := 1) (fr := []) (l := [(302, .fn sp__law_pick 2 []), (303, .fn sp__law_low 2 [])]) 39 rfl rfl (by kernel_rfl) rfl (fun _ _ _ _ => rfl) d__law_plain_share c__law_plain_share ⟨(h302).up (by decide), ⟨(h303).up (by decide), trivial⟩⟩ (hsp__law_plain_share rfl rfl ) (dfl_none rfl fun kV doc pm an cdv ct us hl => match us, hl with | [_], _ => rfl)
theorem g309 (B : Bs m fn (At C)) (h302 : GOk m 1 (nm 302) (.fn sp__law_pick 2 [])) : GOk m 2 (nm 309) (.fn sp__law_eye 1 []) :=
  B.fn (T := { N := Lt.N__law_eye, gn := gn }) (lvl := 1) (fr := []) (l := [(302, .fn sp__law_pick 2 [])]) 40 rfl rfl (by kernel_rfl) rfl (fun _ _ _ _ => rfl) d__law_eye c__law_eye ⟨(h302).up (by decide), trivial⟩ (hsp__law_eye rfl ) (dfl_none rfl fun kV doc pm an cdv ct us hl => match us, hl with | [_], _ => rfl)
theorem g310 (B : Bs m fn (At C)) (h304 : GOk m 2 (nm 304) (.fn sp__law_plus 2 [])) (h305 : GOk m 2 (nm 305) (.fn sp__law_minus 2 [])) (h306 : GOk m 2 (nm 306) (.fn sp__law_times 2 [])) : GOk m 3 (nm 310) (.fn sp__law_far 3 []) :=
  B.fn (T := { N := Lt.N__law_far, gn := gn }) (lvl := 2) (fr := []) (l := [(304, .fn sp__law_plus 2 []), (305, .fn sp__law_minus 2 []), (306, .fn sp__law_times 2 [])]) 41 rfl rfl (by kernel_rfl) rfl (fun _ _ _ _ => rfl) d__law_far c__law_far ⟨(h304).up (by decide), ⟨(h305).up (by decide), ⟨(h306).up (by decide), trivial⟩⟩⟩ (hsp__law_far rfl rfl rfl ) (dfl_none rfl fun kV doc pm an cdv ct us hl => match us, hl with | [_, _, _], _ => rfl)
theorem g384 (B : Bs m fn (At C)) (h302 : GOk m 1 (nm 302) (.fn sp__law_pick 2 [])) (h304 : GOk m 2 (nm 304) (.fn sp__law_plus 2 [])) (h306 : GOk m 2 (nm 306) (.fn sp__law_times 2 [])) (h308 : GOk m 2 (nm 308) (.fn sp__law_plain_share 1 [])) : GOk m 3 (nm 384) (.fn sp__law_lights 2 []) :=
  B.fn (T := { N := Lt.N__law_lights, gn := gn }) (lvl := 2) (fr := [3]) (l := [(302, .fn sp__law_pick 2 []), (304, .fn sp__law_plus 2 []), (306, .fn sp__law_times 2 []), (308, .fn sp__law_plain_share 1 [])]) 42 rfl rfl (by kernel_rfl) rfl (fun _ _ _ _ => rfl) d__law_lights c__law_lights ⟨(h302).up (by decide), ⟨(h304).up (by decide), ⟨(h306).up (by decide), ⟨(h308).up (by decide), trivial⟩⟩⟩⟩ (hsp__law_lights rfl rfl rfl rfl ) (dfl_none rfl fun kV doc pm an cdv ct us hl => match us, hl with | [_, _], _ => rfl)
theorem g385 (B : Bs m fn (At C)) (h302 : GOk m 1 (nm 302) (.fn sp__law_pick 2 [])) (h303 : GOk m 1 (nm 303) (.fn sp__law_low 2 [])) : GOk m 2 (nm 385) (.fn sp__law_parts 2 []) :=
  B.fn (T := { N := Lt.N__law_parts, gn := gn }) (lvl := 1) (fr := [3]) (l := [(302, .fn sp__law_pick 2 []), (303, .fn sp__law_low 2 [])]) 43 rfl rfl (by kernel_rfl) rfl (fun _ _ _ _ => rfl) d__law_parts c__law_parts ⟨(h302).up (by decide), ⟨(h303).up (by decide), trivial⟩⟩ (hsp__law_parts rfl rfl ) (dfl_none rfl fun kV doc pm an cdv ct us hl => match us, hl with | [_, _], _ => rfl)
theorem g359 (B : Bs m fn (At C)) (h304 : GOk m 2 (nm 304) (.fn sp__law_plus 2 [])) (h306 : GOk m 2 (nm 306) (.fn sp__law_times 2 [])) : GOk m 3 (nm 359) (.fn sp__law_made 2 []) :=
  B.fn (T := { N := Lt.N__law_made, gn := gn }) (lvl := 2) (fr := [2]) (l := [(304, .fn sp__law_plus 2 []), (306, .fn sp__law_times 2 [])]) 44 rfl rfl (by kernel_rfl) rfl (fun _ _ _ _ => rfl) d__law_made c__law_made ⟨(h304).up (by decide), ⟨(h306).up (by decide), trivial⟩⟩ (hsp__law_made rfl rfl ) (dfl_none rfl fun kV doc pm an cdv ct us hl => match us, hl with | [_, _], _ => rfl)
theorem g386 (B : Bs m fn (At C)) (h304 : GOk m 2 (nm 304) (.fn sp__law_plus 2 [])) (h306 : GOk m 2 (nm 306) (.fn sp__law_times 2 [])) : GOk m 3 (nm 386) (.fn sp__law_weighed 3 []) :=
  B.fn (T := { N := Lt.N__law_weighed, gn := gn }) (lvl := 2) (fr := []) (l := [(304, .fn sp__law_plus 2 []), (306, .fn sp__law_times 2 [])]) 45 rfl rfl (by kernel_rfl) rfl (fun _ _ _ _ => rfl) d__law_weighed c__law_weighed ⟨(h304).up (by decide), ⟨(h306).up (by decide), trivial⟩⟩ (hsp__law_weighed rfl rfl ) (dfl_none rfl fun kV doc pm an cdv ct us hl => match us, hl with | [_, _, _], _ => rfl)
theorem g393 (B : Bs m fn (At C)) (h305 : GOk m 2 (nm 305) (.fn sp__law_minus 2 [])) : GOk m 3 (nm 393) (.fn sp__law_gaps 2 []) :=
  B.fn (T := { N := Lt.N__law_gaps, gn := gn }) (lvl := 2) (fr := []) (l := [(305, .fn sp__law_minus 2 [])]) 46 rfl rfl (by kernel_rfl) rfl (fun _ _ _ _ => rfl) d__law_gaps c__law_gaps ⟨(h305).up (by decide), trivial⟩ (hsp__law_gaps rfl ) (dfl_none rfl fun kV doc pm an cdv ct us hl => match us, hl with | [_, _], _ => rfl)
theorem g387 (B : Bs m fn (At C)) (h302 : GOk m 1 (nm 302) (.fn sp__law_pick 2 [])) (h308 : GOk m 2 (nm 308) (.fn sp__law_plain_share 1 [])) (h359 : GOk m 3 (nm 359) (.fn sp__law_made 2 [])) (h385 : GOk m 2 (nm 385) (.fn sp__law_parts 2 [])) : GOk m 4 (nm 387) (.fn sp__law_wish 2 []) :=
  B.fn (T := { N := Lt.N__law_wish, gn := gn }) (lvl := 3) (fr := []) (l := [(302, .fn sp__law_pick 2 []), (308, .fn sp__law_plain_share 1 []), (359, .fn sp__law_made 2 []), (385, .fn sp__law_parts 2 [])]) 47 rfl rfl (by kernel_rfl) rfl (fun _ _ _ _ => rfl) d__law_wish c__law_wish ⟨(h302).up (by decide), ⟨(h308).up (by decide), ⟨(h359).up (by decide), ⟨(h385).up (by decide), trivial⟩⟩⟩⟩ (hsp__law_wish rfl rfl rfl rfl ) (dfl_none rfl fun kV doc pm an cdv ct us hl => match us, hl with | [_, _], _ => rfl)
theorem g388 (B : Bs m fn (At C)) (h24 : GOk m 6 (nm 24) (.cls (C 24) true (sp_Shade___init__ (C 24)) 4 [])) : GOk m 7 (nm 388) (.fn (sp__law_shade (C 24)) 1 []) :=
  B.fn (T := { N := Lt.N__law_shade, gn := gn }) (lvl := 6) (fr := []) (l := [(24, .cls (C 24) true (sp_Shade___init__ (C 24)) 4 [])]) 48 rfl rfl (by kernel_rfl) rfl (fun _ _ _ _ => rfl) d__law_shade c__law_shade ⟨(h24).up (by decide), trivial⟩ (hsp__law_shade rfl ) (dfl_none rfl fun kV doc pm an cdv ct us hl => match us, hl with | [_], _ => rfl)
theorem g317 (B : Bs m fn (At C)) (h250 : GOk m 9 (nm 250) (.fnk (sp_make (C 24)) 3 2 [("eye" : Str)])) (h251 : GOk m 8 (nm 251) (.fnk (sp_far (C 24)) 3 2 [("eye" : Str)])) (h307 : GOk m 1 (nm 307) (.fn sp__law_below 2 [])) (h310 : GOk m 3 (nm 310) (.fn sp__law_far 3 [])) (h359 : GOk m 3 (nm 359) (.fn sp__law_made 2 [])) (h385 : GOk m 2 (nm 385) (.fn sp__law_parts 2 [])) (h386 : GOk m 3 (nm 386) (.fn sp__law_weighed 3 [])) (h388 : GOk m 7 (nm 388) (.fn (sp__law_shade (C 24)) 1 [])) (h393 : GOk m 3 (nm 393) (.fn sp__law_gaps 2 [])) : GOk m 10 (nm 317) (.fn sp__law_right 4 []) :=
  B.fn (T := { N := Lt.N__law_right, gn := gn }) (lvl := 9) (fr := [10]) (l := [(250, .fnk (sp_make (C 24)) 3 2 [("eye" : Str)]), (251, .fnk (sp_far (C 24)) 3 2 [("eye" : Str)]), (307, .fn sp__law_below 2 []), (310, .fn sp__law_far 3 []), (359, .fn sp__law_made 2 []), (385, .fn sp__law_parts 2 []), (386, .fn sp__law_weighed 3 []), (388, .fn (sp__law_shade (C 24)) 1 []), (393, .fn sp__law_gaps 2 [])]) 49 rfl rfl (by kernel_rfl) rfl (fun _ _ _ _ => rfl) d__law_right c__law_right ⟨(h250).up (by decide), ⟨(h251).up (by decide), ⟨(h307).up (by decide), ⟨(h310).up (by decide), ⟨(h359).up (by decide), ⟨(h385).up (by decide), ⟨(h386).up (by decide), ⟨(h388).up (by decide), ⟨(h393).up (by decide), trivial⟩⟩⟩⟩⟩⟩⟩⟩⟩ (hsp__law_right rfl rfl rfl rfl rfl rfl rfl rfl rfl (fun f hf => ⟨rfl, hf⟩)) (dfl_none rfl fun kV doc pm an cdv ct us hl => match us, hl with | [_, _, _, _], _ => rfl)
end
end L46
set_option Elab.async false
set_option linter.all false
set_option maxRecDepth 100000
set_option maxHeartbeats 0
namespace L46
open PySem PySem.Spec PyProof.Rows Li L2
def exl (K : PySem.W.Frag) : List Bool := [He.tupB K ("ZERO" : Str) [.int 0, .int 1], He.tupB K ("EVEN" : Str) [.int 1, .int 1, .int 1], clsB K ("Shade" : Str)]
theorem ex_all {K : PySem.W.Frag} (h : ex K = true) : (∀ b ∈ exl K, b = true) ∧ (tf.map fun p => (He.cT K p).2).Nodup := by
  unfold ex at h
  simp only [Bool.and_eq_true, decide_eq_true_eq] at h
  refine ⟨fun b hb => ?_, h.2⟩
  simp only [exl, List.mem_cons, List.not_mem_nil, or_false] at hb
  rcases hb with rfl | rfl | rfl <;> simp only [h]
def T (K : PySem.W.Frag) : List NdefX.NTab := [((He.cT K (("far_by" : Str), none)).2, tn_far_by), ((He.cT K (("products_of" : Str), none)).2, tn_products_of)]
theorem at_ok {K : PySem.W.Frag} (f : ∀ x ∈ fa, x.ok K = true) : ∀ (C : Addr) (g : Str), At (fun n => He.ga K (nm n)) C g → Cls K C ∧ NoAttr K C g := fun C g h => by
  obtain ⟨rfl, hf⟩ := h
  have e : He.ga K (nm 24) = He.ga K ("Shade" : Str) := congrArg (He.ga K) (by kernel_rfl)
  show Cls K (He.ga K (nm 24)) ∧ NoAttr K (He.ga K (nm 24)) g
  rw [e]
  refine ⟨He.cls_ok (f (.cls ("Shade" : Str)) (List.mem_of_getElem? (i := 12) rfl)), ?_⟩
  simp only [shadeF, List.mem_cons, List.not_mem_nil, or_false] at hf
  rcases hf with rfl | rfl | rfl
  · exact He.noat_ok (f (.noat ("Shade" : Str) ("ember" : Str)) (List.mem_of_getElem? (i := 14) rfl))
  · exact He.noat_ok (f (.noat ("Shade" : Str) ("leaf" : Str)) (List.mem_of_getElem? (i := 15) rfl))
  · exact He.noat_ok (f (.noat ("Shade" : Str) ("sky" : Str)) (List.mem_of_getElem? (i := 16) rfl))
theorem free_all {K : PySem.W.Frag} {base : Heap} {mg : Str → Option Value} (KB : K.In base) (GB : base.Ns mainGlobals mg) (f : ∀ x ∈ fa, x.ok K = true) : ∀ x, bnames.contains x = true → mg x = none := fun x hx => by
  have hx := List.contains_iff_mem.mp hx
  simp only [bnames, List.mem_cons, List.not_mem_nil, or_false] at hx
  rcases hx with rfl | rfl | rfl | rfl | rfl | rfl | rfl | rfl | rfl | rfl | rfl | rfl | rfl | rfl | rfl | rfl | rfl | rfl | rfl
  · exact He.free_ok KB GB (f (.free ("len" : Str)) (List.mem_of_getElem? (i := 61) rfl))
  · exact He.free_ok KB GB (f (.free ("abs" : Str)) (List.mem_of_getElem? (i := 62) rfl))
  · exact He.free_ok KB GB (f (.free ("int" : Str)) (List.mem_of_getElem? (i := 63) rfl))
  · exact He.free_ok KB GB (f (.free ("str" : Str)) (List.mem_of_getElem? (i := 64) rfl))
  · exact He.free_ok KB GB (f (.free ("repr" : Str)) (List.mem_of_getElem? (i := 65) rfl))
  · exact He.free_ok KB GB (f (.free ("tuple" : Str)) (List.mem_of_getElem? (i := 66) rfl))
  · exact He.free_ok KB GB (f (.free ("list" : Str)) (List.mem_of_getElem? (i := 67) rfl))
  · exact He.free_ok KB GB (f (.free ("sum" : Str)) (List.mem_of_getElem? (i := 68) rfl))
  · exact He.free_ok KB GB (f (.free ("min" : Str)) (List.mem_of_getElem? (i := 69) rfl))
  · exact He.free_ok KB GB (f (.free ("max" : Str)) (List.mem_of_getElem? (i := 70) rfl))
  · exact He.free_ok KB GB (f (.free ("all" : Str)) (List.mem_of_getElem? (i := 71) rfl))
  · exact He.free_ok KB GB (f (.free ("any" : Str)) (List.mem_of_getElem? (i := 72) rfl))
  · exact He.free_ok KB GB (f (.free ("sorted" : Str)) (List.mem_of_getElem? (i := 73) rfl))
  · exact He.free_ok KB GB (f (.free ("isinstance" : Str)) (List.mem_of_getElem? (i := 74) rfl))
  · exact He.free_ok KB GB (f (.free ("range" : Str)) (List.mem_of_getElem? (i := 75) rfl))
  · exact He.free_ok KB GB (f (.free ("enumerate" : Str)) (List.mem_of_getElem? (i := 76) rfl))
  · exact He.free_ok KB GB (f (.free ("zip" : Str)) (List.mem_of_getElem? (i := 77) rfl))
  · exact He.free_ok KB GB (f (.free ("dict" : Str)) (List.mem_of_getElem? (i := 78) rfl))
  · exact He.free_ok KB GB (f (.free ("bool" : Str)) (List.mem_of_getElem? (i := 79) rfl))
theorem glo_all {K : PySem.W.Frag} {base : Heap} {mg : Str → Option Value} (KB : K.In base) (GB : base.Ns mainGlobals mg) (f : ∀ x ∈ fa, x.ok K = true) : ∀ d ∈ fn, ∀ x, d.at_ = (x, none) → mg x = some (.ref (He.ga K x)) := fun d hd x hx => by
  have key : fn.all (fun d => match d.at_ with
    | (x, none) => fa.any fun f => match f with
      | .glo y => x == y
      | _ => false
    | _ => true) = true := by kernel_rfl
  have h := List.all_eq_true.mp key d hd
  rw [hx] at h
  obtain ⟨g, hg, e⟩ := List.any_eq_true.mp h
  cases g with
  | glo y =>
    have e : x = y := eq_of_beq e
    subst e
    exact He.glo_ok KB GB (f _ hg)
  | _ => cases e
theorem law_ok {w : World} {K : PySem.W.Frag} {h : Heap} {mg : Str → Option Value} {fd : FuncData} (c : He.SaysX fa fn [] tf ex w h K) (F : FunD K D_law.name D_law.qual D_law.params D_law.body D_law.scope (D_law.dvs K) (D_law.kws K) (He.fAd K D_law.at_) fd) (base : Heap) (KB : K.In base) (GB : base.Ns mainGlobals mg) (TB : ∀ p ∈ tf.map (He.cT K), LamX.TabB base mg p.1 p.2) :
    FnOk (PySem.Challenge.rw_lightshares_k46_whole_none_made_is_neare).prog w K mg base (CX (PySem.Challenge.rw_lightshares_k46_whole_none_made_is_neare).prog w) 11 (He.fAd K D_law.at_) fd L46.p_law (toSp K (T K) 1 sp_law46) := by
  let m : Mo := ⟨(PySem.Challenge.rw_lightshares_k46_whole_none_made_is_neare).prog, w, K, mg, base, T K⟩
  have fs : ∀ x ∈ fa, x.ok K = true := fun x hx => c.t.d.facts hx
  obtain ⟨exs, nod⟩ := ex_all c.more
  have B : Bs m fn (At fun n => He.ga K (nm n)) := ⟨fun d hd => c.t.d.defs hd, glo_all KB GB fs, free_all KB GB fs, at_ok fs⟩
  have Bt : Bt m tf := ⟨fun p hp => TB _ (List.mem_map.mpr ⟨p, hp, rfl⟩)⟩
  have glo : ∀ x, He.Fa.glo x ∈ fa → mg x = some (.ref (He.ga K x)) := fun x hx => He.glo_ok KB GB (fs _ hx)
  have u0 : ∀ p ∈ T K, p.1 = (He.cT K (("far_by" : Str), none)).2 → p.2 = tn_far_by := fun p hp e => by
    simp only [T, List.mem_cons, List.not_mem_nil, or_false] at hp
    simp only [tf, List.map_cons, List.map_nil, List.nodup_cons, List.mem_cons, List.not_mem_nil, or_false, not_or, List.nodup_nil, and_true, not_false_eq_true] at nod
    rcases hp with rfl | rfl
    · rfl
    · exact absurd e.symm (by
      first
        | exact nod
        | exact nod.1
        | exact fun z => nod z
        | exact fun z => nod.1 z)
  have u1 : ∀ p ∈ T K, p.1 = (He.cT K (("products_of" : Str), none)).2 → p.2 = tn_products_of := fun p hp e => by
    simp only [T, List.mem_cons, List.not_mem_nil, or_false] at hp
    simp only [tf, List.map_cons, List.map_nil, List.nodup_cons, List.mem_cons, List.not_mem_nil, or_false, not_or, List.nodup_nil, and_true, not_false_eq_true] at nod
    rcases hp with rfl | rfl
    · exact absurd e (by
      first
        | exact nod
        | exact nod.1
        | exact fun z => nod z
        | exact fun z => nod.1 z)
    · rfl
  have h11 : GOk m 0 (nm 11) (.val (.tup ([0, 1].map Val.int))) := gok_tup (x := ("ZERO" : Str)) (by kernel_rfl) (glo ("ZERO" : Str) (List.mem_of_getElem? (i := 0) rfl)) (exs _ (List.mem_of_getElem? (i := 0) rfl))
  have h28 : GOk m 0 (nm 28) (.val (.int 99)) := gok_int (x := ("MOST_EYE" : Str)) (by kernel_rfl) (He.int_ok KB GB (c.t.d.facts (f := .int ("MOST_EYE" : Str) 99) (List.mem_of_getElem? (i := 21) rfl)))
  have h29 : GOk m 0 (nm 29) (.val (.tup ([1, 1, 1].map Val.int))) := gok_tup (x := ("EVEN" : Str)) (by kernel_rfl) (glo ("EVEN" : Str) (List.mem_of_getElem? (i := 22) rfl)) (exs _ (List.mem_of_getElem? (i := 1) rfl))
  have h105 : GOk m 0 (nm 105) (.val (.int 5)) := gok_int (x := ("MOST_LIGHTS" : Str)) (by kernel_rfl) (He.int_ok KB GB (c.t.d.facts (f := .int ("MOST_LIGHTS" : Str) 5) (List.mem_of_getElem? (i := 27) rfl)))
  have h106 : GOk m 0 (nm 106) (.val (.int 4)) := gok_int (x := ("MOST_USED" : Str)) (by kernel_rfl) (He.int_ok KB GB (c.t.d.facts (f := .int ("MOST_USED" : Str) 4) (List.mem_of_getElem? (i := 28) rfl)))
  have h12 := g12 B 
  have h13 := g13 B 
  have h14 := g14 B h13
  have h15 := g15 B h12 h13
  have h16 := g16 B h15
  have h17 := g17 B h16
  have h18 := g18 B h14
  have h19 := g19 B h14
  have h20 := g20 B h14
  have h22 := g22 B h11 h18
  have h24 := g24 B (glo ("Shade" : Str) (List.mem_of_getElem? (i := 11) rfl)) (He.mkr_ok (c.t.d.facts (f := .mkr ("Shade" : Str)) (List.mem_of_getElem? (i := 13) rfl))) (clsB_ok (c.t.d.facts (f := .cls ("Shade" : Str)) (List.mem_of_getElem? (i := 12) rfl)) (exs _ (List.mem_of_getElem? (i := 2) rfl))) (congrArg (He.ga K) (by kernel_rfl)) h17
  have h104 := g104 B h24
  have h25 := g25 B h24
  have h26 := g26 B 
  have h47 := g47 B h24
  have h30 := g30 B h12 h28 h29
  have h31 := g31 B h29 h30
  have h32 := g32 B Bt (List.mem_of_getElem? (i := 0) rfl) u0 h19 h20 h22
  have h120 := g120 B h25 h26 h31 h32
  have h251 := g251 B h25 h26 h31 h32
  have h107 := g107 B h104 h105
  have h108 := g108 B h19
  have h109 := g109 B h20 h22
  have h110 := g110 B h13
  have h111 := g111 B Bt (List.mem_of_getElem? (i := 1) rfl) u1 h110
  have h112 := g112 B  4
  have h113 := g113 B h112
  have h114 := g114 B 
  have h115 := g115 B h106
  have h116 := g116 B h14 h109 h111 h113 h114 h115
  have h117 := g117 B h20 h22 h108
  have h118 := g118 B h25 h26 h31 h47 h107 h116 h117
  have h250 := g250 B h25 h26 h31 h47 h107 h116 h117
  have h300 := g300 B 
  have h301 := g301 B 
  have h302 := g302 B 
  have h303 := g303 B 
  have h304 := g304 B h303
  have h305 := g305 B h303
  have h306 := g306 B h303
  have h307 := g307 B 
  have h308 := g308 B h302 h303
  have h309 := g309 B h302
  have h310 := g310 B h304 h305 h306
  have h384 := g384 B h302 h304 h306 h308
  have h385 := g385 B h302 h303
  have h359 := g359 B h304 h306
  have h386 := g386 B h304 h306
  have h393 := g393 B h305
  have h387 := g387 B h302 h308 h359 h385
  have h388 := g388 B h24
  have h317 := g317 B h250 h251 h307 h310 h359 h385 h386 h388 h393
  exact okLi (m := m) (T := { N := L46.N_law, gn := gn }) (A := At fun n => He.ga K (nm n)) (lvl := 10) (fr := []) (l := [(300, .fn sp__law_cell 2 []), (301, .fn sp__law_purse 1 []), (302, .fn sp__law_pick 2 []), (309, .fn sp__law_eye 1 []), (317, .fn sp__law_right 4 []), (384, .fn sp__law_lights 2 []), (387, .fn sp__law_wish 2 [])]) F (fun _ _ _ _ => rfl) d_law c_law ⟨(h300).up (by decide), ⟨(h301).up (by decide), ⟨(h302).up (by decide), ⟨(h309).up (by decide), ⟨(h317).up (by decide), ⟨(h384).up (by decide), ⟨(h387).up (by decide), trivial⟩⟩⟩⟩⟩⟩⟩ B.att B.bl (hsp_law46 rfl rfl rfl rfl rfl rfl rfl)
theorem law_facts {w : World} {mg : Str → Option Value} {h : Heap} {fa' : Addr} (Y : hk.says w h) (G : h.Ns mainGlobals mg) (hmg : mg ("law" : Str) = some (.ref fa')) : ∃ K : PySem.W.Frag, K.In h ∧ LamX.LawAtS PySem.Challenge.rw_lightshares_k46_whole_none_made_is_neare w K (CX (PySem.Challenge.rw_lightshares_k46_whole_none_made_is_neare).prog w) 11 63 ("_law_script" : Str) mg fa' h := by
  obtain ⟨K, KX, c⟩ := Y
  obtain ⟨fd, F⟩ := c.t.d.defs (d := D_law) (List.mem_of_getElem? (i := 50) rfl)
  have e := hmg.symm.trans (He.glo_ok KX G (c.t.d.facts (f := .glo ("law" : Str)) (List.mem_of_getElem? (i := 60) rfl)))
  cases e
  refine ⟨K, KX, law_at (T := T K) (cs := tf.map (He.cT K)) (sp := sp_law46) (fd := fd) (fun p hp => ?_) (fun p hp => ?_) (fun p hp => ?_) (fun p hp => ?_) ?_ (fun ns S _ _ => ⟨ns, rfl, fun _ => rfl⟩) (fun base KB GB TB => law_ok c F base KB GB TB)⟩
  · simp only [T, List.mem_cons, List.not_mem_nil, or_false] at hp
    rcases hp with rfl | rfl
    · exact ⟨_, List.mem_map.mpr ⟨(("far_by" : Str), none), by simp [tf], rfl⟩, rfl⟩
    · exact ⟨_, List.mem_map.mpr ⟨(("products_of" : Str), none), by simp [tf], rfl⟩, rfl⟩
  · obtain ⟨q, hq, rfl⟩ := List.mem_map.mp hp
    exact c.empty q hq
  · obtain ⟨q, hq, rfl⟩ := List.mem_map.mp hp
    exact c.out q hq
  · obtain ⟨q, hq, rfl⟩ := List.mem_map.mp hp
    exact PySem.W.codeHd_of_K KX (c.hd q hq)
  · have b := FunD.bindsA (ps := L46.p_law) F fun _ _ _ _ _ _ us hl => match us, hl with | [_], _ => rfl
    exact fun s v => b s [v] rfl
end L46
open PySem PySem.W PySem.Calls PyProof.Rows
theorem PySem.Challenge.cw_lightshares_k46_whole_none_made_is_neare_holds : PySem.Challenge.rw_lightshares_k46_whole_none_made_is_neare.Holds := by
  w_on; o_law
  refine HandSHeadRun.head_any (r := OpenLaw.row PySem.Challenge.rw_lightshares_k46_whole_none_made_is_neare) (q := view (OpenLaw.row PySem.Challenge.rw_lightshares_k46_whole_none_made_is_neare).prog [66]) (H := L46.hk) (ob := L46.ob) (M := 3000) (loose := L46.names) (d := HandSHeadRun.topDef (OpenLaw.row PySem.Challenge.rw_lightshares_k46_whole_none_made_is_neare).prog 66) (kwd := []) L46.ob_eq
    (by kernel_rfl) (fun s => by kernel_rfl) L46.run (by kernel_rfl) (by kernel_rfl) (by kernel_rfl) (by rfl) (by first | assumption | decide +kernel) (by decide +kernel) ⟨rfl, rfl, rfl, rfl, rfl, by decide +kernel⟩ ?hw ?hc
  case hw => w_witness2
  case hc =>
    refine LamX.walk_ofTsE (l := PySem.Challenge.rw_lightshares_k46_whole_none_made_is_neare) (n := 63) (k := 11) (x := ("_law_script" : PySem.Str)) (CX := L2.CX (PySem.Challenge.rw_lightshares_k46_whole_none_made_is_neare).prog) rfl (by decide) (by kernel_rfl) ⟨rfl, by decide, by decide⟩ ?F (fun w H s e s' z => by
      obtain ⟨_, _, _, _, _, _, _, _, _, _, _, _, z⟩ := z
      exact z)
    intro w mg fa' h Y G hmg0
    have hmg : mg ("law" : PySem.Str) = some (.ref fa') := by
      have e : (HandSHeadRun.topDef (OpenLaw.row PySem.Challenge.rw_lightshares_k46_whole_none_made_is_neare).prog 66).name = ("law" : PySem.Str) := by kernel_rfl
      rw [← e]
      exact hmg0
    exact L46.law_facts Y G hmg
