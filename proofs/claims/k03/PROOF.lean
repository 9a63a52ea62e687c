import PyProof.Rows.All
import PySem.Syntax
import Wide.All
import OpenK.AllK
import Wide.FinOn
import HandS.ForMost
import HandS.WordsExc
import HandS.Deep
import HandS.Flow
import HandS.Walk
import KE.KDictKeyed
import KE.KDictCopyH
import HandS.TupLen
import HandS.TryOnly
import HandS.Style
import HandS.TupAny
import HandS.TupMul
import HandS.IsInst
import HandS.WideBits
import HandS.Text
import KE.KExcSuper
import HandS.ExcInit
import HandS.ExcField
import HandS.CallLocal
import HandS.Codes
import HandS.DictComp
import KE.SortData
import HandS.Sort
import HandS.Iter
import KE.KDictWalk
import KE.KDictSum
import KE.KEqDict
import KE.KEqNest
import HandS.DictEq
import HandS.Strs
import PySem.Builtin.Int.Common
import HandS.EndBits
import PySem.Challenge.RW_rightskept_k03_conversions
set_option Elab.async false
set_option linter.all false
set_option maxRecDepth 100000
section
/-! Rx, part 0: data as trees, things that are owned, and an evaluator of a small language over them (plain Lean; no program in sight). -/
namespace Rx
open PySem

/-- data: what nobody changes any more. lk: the law's own script -/
inductive D where
  | non | bl (b : Bool) | int (i : Int) | str (s : List Nat)
  | tup (xs : List D) | lst (xs : List D) | lk (xs : List D) | dic (kvs : List (D × D))
  | ins (c : Str) (fs : List (Str × D)) | fn (f : Str)
  | din (kvs : List (D × D))
  | adr (a : Nat) | ali (a n : Nat)
  | tpn (xs : List D)
  deriving Inhabited
noncomputable instance : DecidableEq D := fun _ _ => Classical.propDecidable _

/-- a thing that one name alone holds: data, or a list, a dict, an instance that may still be changed -/
inductive OT where
  | fz (d : D) | lst (xs : List OT) | dic (kvs : List (D × D)) | ins (c : Str) (fs : List (Str × OT)) | din (kvs : List (D × D))

/-! ### the tree of a thing -/
mutual
def OT.view : OT → D
  | .fz d => d
  | .lst xs => .lst (OT.views xs)
  | .dic kvs => .dic kvs
  | .ins c fs => .ins c (OT.viewf fs)
  | .din kvs => .din kvs
def OT.views : List OT → List D
  | [] => []
  | x :: xs => OT.view x :: OT.views xs
def OT.viewf : List (Str × OT) → List (Str × D)
  | [] => []
  | (f, x) :: xs => (f, OT.view x) :: OT.viewf xs
end
/-- the tree, where nothing within is owned -/
def allFz : List OT → Option (List D)
  | [] => some []
  | .fz d :: xs => (allFz xs).map (d :: ·)
  | _ :: _ => none
def OT.flat : OT → Option D
  | .fz d => some d
  | .lst xs => (allFz xs).map .lst
  | .dic kvs => some (.dic kvs)
  | .ins _ _ => none
  | .din kvs => some (.din kvs)
/-- a list just made -/
abbrev OT.ml (ds : List D) : OT := .lst (ds.map .fz)
@[simp] theorem views_map (ds : List D) : OT.views (ds.map .fz) = ds := by
  induction ds with
  | nil => rfl
  | cons d ds ih => simp [OT.views, OT.view, ih]
@[simp] theorem allFz_map (ds : List D) : allFz (ds.map .fz) = some ds := by
  induction ds with
  | nil => rfl
  | cons d ds ih => simp [allFz, ih]

/-- a tuple as any other -/
def OT.wk : OT → OT
  | .fz (.tpn xs) => .fz (.tup xs)
  | t => t
abbrev Slot := Option OT
abbrev Ev := List Slot
structure Exn where
  cls : Str
  fs : List (Str × D)
/-- how a call of a def ends: it yields a thing, and what its changed arguments are behind it -/
inductive Out where
  | bad | ok (r : OT) (outs : List Slot) | exn (x : Exn) (outs : List Slot)
abbrev Fn := List Slot → Out

inductive R (α : Type) where
  | bad | ok (a : α) (e : Ev) | exn (x : Exn) (e : Ev)
@[simp] def R.bind {α β : Type} : R α → (α → Ev → R β) → R β
  | .bad, _ => .bad
  | .ok a e, f => f a e
  | .exn x e, _ => .exn x e
abbrev M (α : Type) := Ev → R α
def M.pure {α : Type} (a : α) : M α := fun e => .ok a e
def M.bind {α β : Type} (m : M α) (f : α → M β) : M β := fun e => (m e).bind fun a e' => f a e'
def M.lift {α : Type} : Option α → M α
  | some a => fun e => .ok a e
  | none => fun _ => .bad
@[simp] theorem M.pure_app {α : Type} (a : α) (e : Ev) : M.pure a e = .ok a e := rfl
@[simp] theorem M.bind_app {α β : Type} (m : M α) (f : α → M β) (e : Ev) : M.bind m f e = (m e).bind fun a e' => f a e' := rfl
@[simp] theorem M.lift_some {α : Type} (a : α) (e : Ev) : M.lift (some a) e = .ok a e := rfl
@[simp] theorem M.lift_none {α : Type} (e : Ev) : M.lift (none : Option α) e = .bad := rfl

/-! ### values -/
def sizeMax : Nat := 16777216
/-- where an index lies, among n -/
def plc (n : Nat) (i : Int) : Option Nat := match i with
  | .ofNat k => if k < n then some k else none
  | .negSucc k => if k < n then some (n - 1 - k) else none
def getI {α : Type} (xs : List α) (i : Int) : Option α := match plc xs.length i with
  | some k => xs[k]?
  | none => none
/-- where a slice begins or ends -/
def bnd (n dflt : Nat) : Option Int → Nat
  | none => dflt
  | some (.ofNat k) => min k n
  | some (.negSucc k) => n - 1 - k
def cut {α : Type} (xs : List α) (lo hi : Option Int) : List α := (xs.take (bnd xs.length xs.length hi)).drop (bnd xs.length 0 lo)
noncomputable def lookD (kvs : List (D × D)) (k : D) : Option D := match kvs with
  | [] => none
  | (a, v) :: r => if a = k then some v else lookD r k
noncomputable def hasD (kvs : List (D × D)) (k : D) : Bool := kvs.any fun p => decide (p.1 = k)
/-- a dict behind a store: an old key keeps its place -/
noncomputable def putD (kvs : List (D × D)) (k v : D) : List (D × D) := match hasD kvs k with
  | true => kvs.map fun p => if p.1 = k then (k, v) else p
  | false => kvs ++ [(k, v)]
/-! == as Python has it -/
mutual
def D.eqv : D → D → Bool
  | .non, .non => true
  | .bl a, .bl b => a == b
  | .bl a, .int j => (if a then 1 else 0) == j
  | .int i, .bl b => i == (if b then 1 else 0)
  | .int i, .int j => i == j
  | .str x, .str y => x == y
  | .lst xs, .lst ys => D.eqvs xs ys
  | .tup xs, .tup ys => D.eqvs xs ys
  | _, _ => false
def D.eqvs : List D → List D → Bool
  | [], [] => true
  | x :: xs, y :: ys => D.eqv x y && D.eqvs xs ys
  | _, _ => false
end
/-! data that == is defined for, and its depth -/
mutual
def D.eqok : Nat → D → Bool
  | _, .non => true
  | _, .bl _ => true
  | _, .int _ => true
  | _, .str _ => true
  | 0, _ => false
  | n + 1, .lst xs => D.eqoks n xs
  | n + 1, .tup xs => D.eqoks n xs
  | _, _ => false
def D.eqoks : Nat → List D → Bool
  | _, [] => true
  | n, x :: xs => D.eqok n x && D.eqoks n xs
end
def D.truth : D → Option Bool
  | .non => some false
  | .bl b => some b
  | .int i => some (i != 0)
  | .str s => some (!s.isEmpty)
  | .tup xs => some (!xs.isEmpty)
  | .lst xs => some (!xs.isEmpty)
  | .lk xs => some (!xs.isEmpty)
  | .dic _ => none
  | .ins _ _ => none
  | .fn _ => none
  | .din _ => none
  | .adr _ => none
  | .ali _ _ => none
  | .tpn _ => none

/-- a thing's type, by its name -/
def D.ty : D → Option String
  | .non => some "NoneType"
  | .bl _ => some "bool"
  | .int _ => some "int"
  | .str _ => some "str"
  | .tup _ => some "tuple"
  | .tpn _ => some "tuple"
  | .lst _ => some "list"
  | .dic _ => some "dict"
  | _ => none
/-- an attribute is set -/
def putA {α : Type} (f : Str) (y : α) : List (Str × α) → List (Str × α)
  | [] => [(f, y)]
  | (g, z) :: r => if g = f then (f, y) :: r else (g, z) :: putA f y r

/-! ### the small language -/
/-- a step within a thing -/
inductive Wy where
  | c (i : Int) | v (j : Nat) | f (cs : List Str) (x : Str)
inductive TGt where
  | nm (j : Nat) | tp (ts : List TGt)
/-- what a for walks -/
inductive ITK where
  | val | rng1 | rng2 | enum | zip | items | values | keys
  deriving DecidableEq

inductive IE where
  | var (j : Nat)
  | mv (j : Nat)
  | pth (j : Nat) (ss : List Wy)
  | con (c : D)
  | glo (x : Str) (d : D)
  | tup (es : List IE)
  | lst (es : List IE)
  | dnew
  | dnewN
  | bop (op : Operator) (g : D → D → Option OT) (a b : IE)
  | cmp (op : CmpOp) (g : D → D → Option Bool) (a b : IE)
  | chn (o1 o2 : CmpOp) (g1 g2 : D → D → Option Bool) (a b c : IE)
  | und (es : List IE)
  | orr (es : List IE)
  | nt (e : IE)
  | uop (op : UnaryOp) (g : D → Option D) (a : IE)
  | ife (c a b : IE)
  | ix (a i : IE)
  | sl (a : IE) (lo hi : Option IE)
  | att (a : IE) (cs : List Str) (f : Str)
  | call (x : Str) (ms : List Bool) (f : Fn) (es : List IE)
  | bi (x : Str) (g : List D → Option OT) (es : List IE)
  | me (m : Str) (g : D → List D → Option OT) (a : IE) (es : List IE)
  | pop (j : Nat) (ss : List Wy) (i : Option IE)
  | fzz (a : IE)
  | wkn (a : IE)
  | tix (a b : IE)
  | mth (T : String) (m : Str) (g : D → List D → Option OT) (a : IE) (es : List IE)
  | mk (x : Str) (f : Fn) (es : List IE)
  | lnp (j : Nat) (ss : List Wy)
  | meth (c m : Str) (ms : List Bool) (f : Fn) (j : Nat) (es : List IE)
  | cv (j : Nat) (tbl : List (Str × Fn)) (es : List IE)
  | dc (tg : TGt) (k : ITK) (its : List IE) (kx vx : IE) (own : List Nat)
  | lc (tg : TGt) (k : ITK) (its : List IE) (c : Option IE) (e : IE) (own : List Nat)
  | lcD (tg : TGt) (k : ITK) (x : IE) (c : Option IE) (e : IE) (own : List Nat)
  | lcO (tg : TGt) (k : ITK) (its : List IE) (c : Option IE) (e : IE) (own : List Nat)
  | dcD (tg : TGt) (k : ITK) (x : IE) (kx vx : IE) (own : List Nat)
  | dcN (tg : TGt) (k : ITK) (its : List IE) (kx vx : IE) (own : List Nat)

inductive IS where
  | asg (j : Nat) (e : IE)
  | asgT (tg : TGt) (e : IE)
  | par (i j : Nat) (a b : IE)
  | sto (j : Nat) (ss : List Wy) (k : IE) (e : IE)
  | aug (j : Nat) (op : Operator) (g : D → D → Option D) (e : IE)
  | app (j : Nat) (ss : List Wy) (e : IE)
  | ext (j : Nat) (ss : List Wy) (e : IE)
  | ex (e : IE)
  | ret (e : IE)
  | retN
  | iff (c : IE) (a b : List IS)
  | for_ (tg : TGt) (k : ITK) (its : List IE) (body : List IS)
  | ford (tg : TGt) (k : ITK) (x : IE) (body : List IS)
  | whl (n : Nat) (c : IE) (body : List IS)
  | brk | cont | pass
  | rais (x : Str) (mk : List D → Option Exn) (es : List IE)
  | sta (j : Nat) (c f : Str) (e : IE)
  | apq (j : Nat) (ss : List Wy) (e : IE)
  | stp (j : Nat) (ss : List Wy) (w : Wy) (e : IE)
  | aga (j : Nat) (c f : Str) (i : Int)
  | hk (f : List (Option OT) → Option (Option OT × List (Option OT)))
  | tryR (body : List IS) (c : Str) (j : Nat) (f : Str)
  | tryC (body : List IS) (c : Str) (x : IE)

/-! ### names -/
def Ev.at (e : Ev) (j : Nat) : Slot := e.getD j none
@[simp] def M.get (j : Nat) : M OT := fun e => match e.at j with
  | none => .bad
  | some t => .ok t e
/-- a name as a value: what it holds is nobody's own from here on -/
@[simp] def M.read (j : Nat) : M OT := fun e => match e.at j with
  | none => .bad
  | some (.fz d) => .ok (.fz d) e
  | some t => .ok (.fz t.view) (e.set j (some (.fz t.view)))
@[simp] def M.move (j : Nat) : M OT := fun e => match e.at j with
  | none => .bad
  | some (.fz d) => .ok (.fz d) e
  | some t => .ok t (e.set j none)
/-- an operand: a name is looked up when it is wanted -/
@[simp] def IE.isVar : IE → Option Nat
  | .var j => some j
  | _ => none
@[simp] def opd (x : IE) (m : M OT) : M (Option D) := match x.isVar with
  | some j => M.bind (M.get j) fun _ => M.pure none
  | none => M.bind m fun t => M.pure (some t.view)
@[simp] def fin (x : IE) (r : Option D) : M D := match x.isVar with
  | some j => M.bind (M.get j) fun t => M.lift t.flat
  | none => M.lift r
@[simp] def fins : List IE → List (Option D) → M (List D)
  | x :: xs, r :: rs => M.bind (fin x r) fun d => M.bind (fins xs rs) fun ds => M.pure (d :: ds)
  | _, _ => M.pure []
def Wy.child (e : Ev) (t : OT) : Wy → Option OT
  | .c i => (match t with
    | .lst ts => getI ts i
    | .fz (.lst ds) => (getI ds i).map .fz
    | .fz (.tup ds) => (getI ds i).map .fz
    | _ => none)
  | .v j => (match e.at j with
    | some (.fz (.int i)) => (match t with
      | .lst ts => getI ts i
      | .fz (.lst ds) => (getI ds i).map .fz
      | .fz (.tup ds) => (getI ds i).map .fz
      | _ => none)
    | _ => none)
  | .f cs x => (match t with
    | .ins c0 fs => if c0 ∈ cs then fs.lookup x else none
    | .fz (.ins c0 fs) => if c0 ∈ cs then (fs.lookup x).map .fz else none
    | _ => none)
@[simp] def nav (e : Ev) : OT → List Wy → Option OT
  | t, [] => some t
  | t, s :: ss => (s.child e t).bind fun u => nav e u ss
def ixD (a i : D) : Option D := match a, i with
  | .lst xs, .int i => getI xs i
  | .lk xs, .int i => getI xs i
  | .tup xs, .int i => getI xs i
  | .str s, .int i => (getI s i).map fun c => .str [c]
  | _, _ => none
/-! a tuple as a key: of whole numbers, texts, None and such tuples -/
mutual
def D.isk : Nat → D → Bool
  | _, .non => true
  | _, .int _ => true
  | _, .str _ => true
  | n + 1, .tup xs => D.isks n xs
  | _, _ => false
def D.isks : Nat → List D → Bool
  | _, [] => true
  | n, x :: xs => D.isk n x && D.isks n xs
end
def isKeyN : D → Bool
  | .tup xs => D.isks 7 xs
  | _ => false
noncomputable def ixK (a i : D) : Option D := match a with
  | .dic kvs => lookD kvs i
  | .din kvs => if isKeyN i = true then lookD kvs i else none
  | _ => ixD a i
def slD (a : D) (lo hi : Option Int) : Option OT := match a with
  | .lst xs => some (.ml (cut xs lo hi))
  | .tup xs => some (.fz (.tup (cut xs lo hi)))
  | .str s => some (.fz (.str (cut s lo hi)))
  | _ => none
def intK (d : D) : M (Option Int) := match d with
  | .int i => M.pure (some i)
  | _ => fun _ => .bad
def attD (a : D) (cs : List Str) (f : Str) : Option D := match a with
  | .ins c fs => if c ∈ cs then fs.lookup f else none
  | _ => none
@[simp] def intD (i : Nat) : D := .int (i : Int)
def enumD : Nat → List D → List D
  | _, [] => []
  | n, x :: xs => .tup [intD n, x] :: enumD (n + 1) xs
def zipD : List D → List D → List D
  | x :: xs, y :: ys => .tup [x, y] :: zipD xs ys
  | _, _ => []
def rngD (lo : Int) (n : Nat) : List D := (List.range n).map fun (i : Nat) => .int (lo + i)
def rngO (a b : Int) : Option (List D) := if -8000000 ≤ a ∧ a ≤ 8000000 ∧ -8000000 ≤ b ∧ b ≤ 8000000 then some (rngD a (b - a).toNat) else none
/-- what a for walks -/
def itemsOf : ITK → List D → Option (List D)
  | .val, [.lst xs] => some xs
  | .val, [.lk xs] => some xs
  | .val, [.tup xs] => some xs
  | .val, [.str s] => some (s.map fun c => .str [c])
  | .rng1, [.int n] => rngO 0 n
  | .rng2, [.int a, .int b] => rngO a b
  | .enum, [.lst xs] => some (enumD 0 xs)
  | .zip, [.lst xs, .lst ys] => some (zipD xs ys)
  | .items, [.dic kvs] => some (kvs.map fun p => .tup [p.1, p.2])
  | .values, [.dic kvs] => some (kvs.map (·.2))
  | .keys, [.dic kvs] => some (kvs.map (·.1))
  | .items, [.din kvs] => some (kvs.map fun p => .tup [p.1, p.2])
  | .keys, [.din kvs] => some (kvs.map (·.1))
  | _, _ => none
mutual
def bindT : TGt → D → Ev → Option Ev
  | .nm j, d, e => some (e.set j (some (.fz d)))
  | .tp ts, d, e => match d with
    | .tup ds => bindTs ts ds e
    | .lst ds => bindTs ts ds e
    | _ => none
def bindTs : List TGt → List D → Ev → Option Ev
  | [], [], e => some e
  | t :: ts, d :: ds, e => (bindT t d e).bind fun e' => bindTs ts ds e'
  | _, _, _ => none
end
def wipeE (e : Ev) : List Nat → Ev
  | [] => e
  | j :: js => (wipeE e js).set j none
/-- the block's own names as they were -/
def restE (e0 : Ev) : Ev → List Nat → Ev
  | e, [] => e
  | e, j :: js => restE e0 (e.set j (e0.at j)) js
def ownOk (e : Ev) : List Nat → Bool
  | [] => true
  | j :: js => (match e.at j with
    | none => true
    | some (.fz _) => true
    | _ => false) && !js.contains j && ownOk e js
def pickB {α : Type} : Bool → α → α → α
  | true, x, _ => x
  | false, _, y => y
@[simp] theorem pickB_true {α : Type} (x y : α) : pickB true x y = x := rfl
@[simp] theorem pickB_false {α : Type} (x y : α) : pickB false x y = y := rfl
/-- within a comprehension nothing is raised -/
def noX {α : Type} : R α → R α
  | .ok a e => .ok a e
  | _ => .bad
@[simp] theorem noX_ok {α : Type} (a : α) (e : Ev) : noX (.ok a e) = .ok a e := rfl
@[simp] theorem noX_bad {α : Type} : noX (.bad : R α) = .bad := rfl
@[simp] theorem noX_exn {α : Type} (x : Exn) (e : Ev) : noX (.exn x e : R α) = .bad := rfl
/-- a comprehension's turns -/
def lcGo (own : List Nat) (tg : TGt) (mc : M Bool) (me : M OT) : List D → List D → M (List D)
  | [], acc => M.pure acc
  | d :: ds, acc => fun e => match bindT tg d (wipeE e own) with
    | none => .bad
    | some e1 => (noX (mc e1)).bind fun b e2 => pickB b ((noX (me e2)).bind fun t e3 => lcGo own tg mc me ds (acc ++ [t.view]) e3) (lcGo own tg mc me ds acc e2)
def lcRun (own : List Nat) (tg : TGt) (mc : M Bool) (me : M OT) (xs : List D) : M OT := fun e =>
  match ownOk e own with
  | true => (lcGo own tg mc me xs [] e).bind fun acc e' => .ok (.ml acc) (restE e (wipeE e' own) own)
  | false => .bad
/-- .. that keeps what it makes as its own -/
def lcGoO (own : List Nat) (tg : TGt) (mc : M Bool) (me : M OT) : List D → List OT → M (List OT)
  | [], acc => M.pure acc
  | d :: ds, acc => fun e => match bindT tg d (wipeE e own) with
    | none => .bad
    | some e1 => (noX (mc e1)).bind fun b e2 => pickB b ((noX (me e2)).bind fun t e3 => lcGoO own tg mc me ds (acc ++ [t]) e3) (lcGoO own tg mc me ds acc e2)
def lcRunO (own : List Nat) (tg : TGt) (mc : M Bool) (me : M OT) (xs : List D) : M OT := fun e =>
  match ownOk e own with
  | true => (lcGoO own tg mc me xs [] e).bind fun acc e' => .ok (.lst acc) (restE e (wipeE e' own) own)
  | false => .bad
/-! ### calls -/
/-- what is handed to a def, and the names that are to have it back -/
@[simp] def takeRef (j : Nat) : M (Slot × Option Nat) := fun e => match e.at j with
  | none => .bad
  | some (.fz d) => .ok (some (.fz d), none) e
  | some t => .ok (some t, some j) (e.set j none)
@[simp] def giveBack : List (Slot × Option Nat) → List Slot → Ev → Ev
  | (_, some j) :: r, o :: os, e => giveBack r os (e.set j o)
  | (_, none) :: r, _ :: os, e => giveBack r os e
  | _, _, e => e
@[simp] def refVar (ref : Bool) (x : IE) : Option Nat := match ref with
  | true => x.isVar
  | false => none
@[simp] def argOf (ref : Bool) (x : IE) (m : M OT) : M (Slot × Option Nat) := match refVar ref x with
  | some j => M.bind (M.get j) fun _ => M.pure (none, some j)
  | none => M.bind m fun t => M.pure (some (match ref with | true => t | false => .fz t.view), none)
/-- when all arguments are there: the names that are handed on give what they hold -/
@[simp] def takeAll : List (Slot × Option Nat) → M (List (Slot × Option Nat))
  | [] => M.pure []
  | (s, none) :: r => M.bind (takeAll r) fun as => M.pure ((s, none) :: as)
  | (_, some j) :: r => M.bind (takeRef j) fun a => M.bind (takeAll r) fun as => M.pure (a :: as)
@[simp] def callG (f : Fn) (as : List (Slot × Option Nat)) : M OT := fun e => match f (as.map (·.1)) with
  | .bad => .bad
  | .ok r outs => .ok r (giveBack as outs e)
  | .exn x outs => .exn x (giveBack as outs e)
@[simp] def callF (f : Fn) (as : List (Slot × Option Nat)) : M OT := M.bind (takeAll as) fun as => callG f as
/-- a thing within a thing is set -/
@[simp] def setAt (e : Ev) (u : OT → Option OT) : OT → List Wy → Option OT
  | t, [] => u t
  | t, s :: ss => match s, t with
    | .c i, .lst ts => (plc ts.length i).bind fun n => (ts[n]?).bind fun c => (setAt e u c ss).map fun c' => .lst (ts.set n c')
    | .v j, .lst ts => (match e.at j with
      | some (.fz (.int i)) => (plc ts.length i).bind fun n => (ts[n]?).bind fun c => (setAt e u c ss).map fun c' => .lst (ts.set n c')
      | _ => none)
    | .f cs x, .ins c fs => if c ∈ cs then (fs.lookup x).bind fun c1 => (setAt e u c1 ss).map fun c' => .ins c (putA x c' fs) else none
    | _, _ => none
@[simp] def updAt (j : Nat) (ss : List Wy) (u : OT → Option OT) : Ev → Option Ev := fun e => match e.at j with
  | some t => (setAt e u t ss).map fun t' => e.set j (some t')
  | none => none
@[simp] def appO (x : OT) : OT → Option OT
  | .lst ts => if ts.length < sizeMax then some (.lst (ts ++ [x])) else none
  | _ => none
def extO (xs : List D) : OT → Option OT
  | .lst ts => if ts.length + xs.length ≤ sizeMax then some (.lst (ts ++ xs.map .fz)) else none
  | _ => none
def isKey : D → Bool
  | .int _ => true
  | .str _ => true
  | _ => false
noncomputable def stoO (k : D) (x : OT) : OT → Option OT
  | .lst ts => (match k with
    | .int i => (plc ts.length i).map fun n => .lst (ts.set n x)
    | _ => none)
  | .dic kvs => (match x with
    | .fz v => if isKey k = true ∧ kvs.length < sizeMax then some (.dic (putD kvs k v)) else none
    | _ => none)
  | .din kvs => (match x with
    | .fz v => if isKeyN k = true ∧ kvs.length < sizeMax then some (.din (putD kvs k v)) else none
    | _ => none)
  | _ => none
/-- an attribute of what is owned is set -/
def staO (c f : Str) (x : OT) : OT → Option OT
  | .ins c' fs => if c' = c ∧ fs.length < 1000 then some (.ins c (putA f x fs)) else none
  | _ => none
def popO (i : Option Int) : OT → Option (D × OT)
  | .lst ts => (plc ts.length (i.getD (-1))).bind fun n => (ts[n]?).bind fun c => (match c with
    | .fz d => some (d, .lst (ts.eraseIdx n))
    | _ => none)
  | _ => none

/-- an item of an owned list is set, at an index -/
def stpO (e : Ev) (w : Wy) (x : OT) : OT → Option OT
  | .lst ts => (match w with
    | .c i => (plc ts.length i).map fun n => .lst (ts.set n x)
    | .v k => (match e.at k with
      | some (.fz (.int i)) => (plc ts.length i).map fun n => .lst (ts.set n x)
      | _ => none)
    | _ => none)
  | _ => none
/-- a number is added to an attribute -/
def agaO (c f : Str) (i : Int) : OT → Option OT
  | .ins c' fs => if c' = c ∧ fs.length < 1000 then (match fs.lookup f with
    | some (.fz (.int n)) => some (.ins c (putA f (.fz (.int (n + i))) fs))
    | _ => none) else none
  | _ => none
/-- an instance of the class c, without an attribute m of its own -/
def chkM (c m : Str) : OT → M Unit
  | .ins c' fs => if c' = c ∧ fs.lookup m = none then M.pure () else fun _ => .bad
  | _ => fun _ => .bad
/-- a def is called with data -/
def callC (f : Fn) (ds : List D) : M OT := fun e => match f (ds.map fun d => some (.fz d)) with
  | .bad => .bad
  | .ok r _ => .ok r e
  | .exn x _ => .exn x e
/-- an instance is made -/
def mkC (x : Str) (f : Fn) (ds : List D) : M OT := fun e => match f (some (.ins x []) :: ds.map fun d => some (.fz d)) with
  | .ok (.fz .non) (some o :: _) => .ok o e
  | .exn y _ => .exn y e
  | _ => .bad
def strsG : List D → Bool
  | [] => true
  | .str _ :: r => strsG r
  | _ :: _ => false
/-- where a text first stands in a tuple of texts -/
def idxG (s : List Nat) : List D → Option Nat
  | .str x :: r => if x = s then (if strsG r = true then some 0 else none) else (idxG s r).map (· + 1)
  | _ => none
def idxD : D → D → Option OT
  | .tpn xs, .str s => (idxG s xs).map fun n => .fz (.int (n : Nat))
  | _, _ => none
def tpM (x : IE) (r : Option D) : M Unit := M.bind (fin x r) fun d => (match d with
  | .tpn _ => M.pure ()
  | _ => fun _ => .bad)
def tyM (T : String) (x : IE) (r : Option D) : M Unit := M.bind (fin x r) fun d => fun e => if d.ty = some T then .ok () e else .bad
/-- a dict comprehension's turns -/
noncomputable def dcGo (own : List Nat) (tg : TGt) (mk mv : M OT) : List D → List (D × D) → M (List (D × D))
  | [], acc => M.pure acc
  | d :: ds, acc => fun e => match bindT tg d (wipeE e own) with
    | none => .bad
    | some e1 => (noX (mk e1)).bind fun t e2 => (noX (mv e2)).bind fun u e3 => if isKey t.view = true ∧ acc.length < sizeMax then dcGo own tg mk mv ds (putD acc t.view u.view) e3 else .bad
noncomputable def dcRun (own : List Nat) (tg : TGt) (mk mv : M OT) (xs : List D) : M OT := fun e =>
  match ownOk e own with
  | true => (dcGo own tg mk mv xs [] e).bind fun acc e' => .ok (.dic acc) (restE e (wipeE e' own) own)
  | false => .bad
/-- .. whose keys are tuples -/
noncomputable def dcGoN (own : List Nat) (tg : TGt) (mk mv : M OT) : List D → List (D × D) → M (List (D × D))
  | [], acc => M.pure acc
  | d :: ds, acc => fun e => match bindT tg d (wipeE e own) with
    | none => .bad
    | some e1 => (noX (mk e1)).bind fun t e2 => (noX (mv e2)).bind fun u e3 => if isKeyN t.view = true ∧ acc.length < sizeMax then dcGoN own tg mk mv ds (putD acc t.view u.view) e3 else .bad
noncomputable def dcRunN (own : List Nat) (tg : TGt) (mk mv : M OT) (xs : List D) : M OT := fun e =>
  match ownOk e own with
  | true => (dcGoN own tg mk mv xs [] e).bind fun acc e' => .ok (.din acc) (restE e (wipeE e' own) own)
  | false => .bad
/-- the truth of what is yielded -/
@[simp] def truthM (x : IE) (m : M OT) : M Bool := M.bind (opd x m) fun r => M.bind (fin x r) fun d => M.lift d.truth
def pr (x : IE) (m : M OT) : M OT × M Bool := (m, truthM x m)
def andK (d : D) (m : M OT) : M OT := match d with
  | .bl true => m
  | .bl false => M.pure (.fz (.bl false))
  | _ => fun _ => .bad
def orK (d : D) (m : M OT) : M OT := match d with
  | .bl false => m
  | .bl true => M.pure (.fz (.bl true))
  | _ => fun _ => .bad
@[simp] def op2M {α : Type} (xa xb : IE) (ma mb : M OT) (k : D → D → Option D → M α) : M α := M.bind (opd xa ma) fun ra => M.bind (opd xb mb) fun rb => M.bind (fin xa ra) fun x => M.bind (fin xb rb) fun y => k x y rb
def bopM (g : D → D → Option OT) (xa xb : IE) (ma mb : M OT) : M OT := op2M xa xb ma mb fun x y _ => M.lift (g x y)
@[simp] def blM (o : Option Bool) : M OT := M.bind (M.lift o) fun k => M.pure (.fz (.bl k))
def cmpM (g : D → D → Option Bool) (xa xb : IE) (ma mb : M OT) : M OT := op2M xa xb ma mb fun x y _ => blM (g x y)
def cmpT (g : D → D → Option Bool) (xa xb : IE) (ma mb : M OT) : M Bool := op2M xa xb ma mb fun x y _ => M.lift (g x y)
def chnM (g1 g2 : D → D → Option Bool) (xa xb xc : IE) (ma mb mc : M OT) : M OT := op2M xa xb ma mb fun x y rb => M.bind (M.lift (g1 x y)) fun k => (match k with
    | true => M.bind (opd xc mc) fun rc => M.bind (fin xb rb) fun y => M.bind (fin xc rc) fun z => blM (g2 y z)
    | false => M.pure (.fz (.bl false)))
def chnT (g1 g2 : D → D → Option Bool) (xa xb xc : IE) (ma mb mc : M OT) : M Bool := op2M xa xb ma mb fun x y rb => M.bind (M.lift (g1 x y)) fun k => (match k with
    | true => M.bind (opd xc mc) fun rc => M.bind (fin xb rb) fun y => M.bind (fin xc rc) fun z => M.lift (g2 y z)
    | false => M.pure false)
@[simp] def uopM (g : D → Option D) (xa : IE) (ma : M OT) : M OT := M.bind (opd xa ma) fun ra => M.bind (fin xa ra) fun x => M.bind (M.lift (g x)) fun d => M.pure (.fz d)
mutual
/-- what an expression yields; what it is as a test -/
noncomputable def sem : IE → M OT × M Bool
  | .var j => pr (.var j) (M.read j)
  | .mv j => pr (.mv j) (M.move j)
  | .pth j ss => pr (.pth j ss) (M.bind (M.get j) fun t => fun e => (match nav e t ss with
    | some (.fz d) => .ok (.fz d) e
    | _ => .bad))
  | .con c => pr (.con c) (M.pure (.fz c))
  | .glo u0 d => pr (.glo u0 d) (M.pure (.fz d))
  | .tup es => pr (.tup es) (M.bind (evs es) fun ts => M.pure (.fz (.tup (OT.views ts))))
  | .lst es => pr (.lst es) (M.bind (evs es) fun ts => M.pure (.lst ts))
  | .dnew => pr (.dnew) (M.pure (.dic []))
  | .dnewN => pr (.dnewN) (M.pure (.din []))
  | .bop u0 g a b => pr (.bop u0 g a b) (bopM g a b (sem a).1 (sem b).1)
  | .cmp _ g a b => (cmpM g a b (sem a).1 (sem b).1, cmpT g a b (sem a).1 (sem b).1)
  | .chn u0 u1 g1 g2 a b c => pr (.chn u0 u1 g1 g2 a b c) (chnM g1 g2 a b c (sem a).1 (sem b).1 (sem c).1)
  | .und es => (evAnd es, tstAnd es)
  | .orr es => (evOr es, tstOr es)
  | .nt x => (M.bind (truthM x (sem x).1) fun b => M.pure (.fz (.bl (!b))), M.bind (sem x).2 fun b => M.pure (!b))
  | .uop u0 g a => pr (.uop u0 g a) (uopM g a (sem a).1)
  | .ife c a b => (M.bind (sem c).2 fun k => (match k with
    | true => (sem a).1
    | false => (sem b).1), fun _ => .bad)
  | .ix a i => pr (.ix a i) (op2M a i (sem a).1 (sem i).1 fun x y _ => M.bind (M.lift (ixK x y)) fun d => M.pure (.fz d))
  | .sl a lo hi => pr (.sl a lo hi) (M.bind (opd a (sem a).1) fun ra => M.bind (evOpt lo) fun l => M.bind (evOpt hi) fun h => M.bind (fin a ra) fun x => M.lift (slD x l h))
  | .att a cs f => pr (.att a cs f) (M.bind (sem a).1 fun t => M.bind (M.lift (attD t.view cs f)) fun d => M.pure (.fz d))
  | .call u0 ms f es => pr (.call u0 ms f es) (M.bind (evArgs ms es) fun as => callF f as)
  | .lnp j ss => pr (.lnp j ss) (M.bind (M.get j) fun t => fun e => (match nav e t ss with
    | some (.lst ts) => .ok (.fz (intD ts.length)) e
    | _ => .bad))
  | .meth c m ms f j es => pr (.meth c m ms f j es) (M.bind (M.get j) fun t => M.bind (chkM c m t) fun _ => M.bind (evArgs ms es) fun as => callF f ((none, some j) :: as))
  | .bi u0 g es => pr (.bi u0 g es) (M.bind (evOps es) fun rs => M.bind (fins es rs) fun ds => M.lift (g ds))
  | .me u0 g a es => pr (.me u0 g a es) (M.bind (opd a (sem a).1) fun ra => M.bind (evOps es) fun rs => M.bind (fin a ra) fun x => M.bind (fins es rs) fun ds => M.lift (g x ds))
  | .pop j ss i => pr (.pop j ss i) (M.bind (evOpt i) fun k => fun e => (match e.at j with
    | some t => (match nav e t ss with
      | some u => (match popO k u with
        | some (d, u') => (match updAt j ss (fun _ => some u') e with
          | some e' => .ok (.fz d) e'
          | none => .bad)
        | none => .bad)
      | none => .bad)
    | none => .bad))
  | .mth T u0 g a es => pr (.mth T u0 g a es) (M.bind (opd a (sem a).1) fun ra => M.bind (tyM T a ra) fun _ => M.bind (evOps es) fun rs => M.bind (fin a ra) fun x => M.bind (fins es rs) fun ds => M.lift (g x ds))
  | .mk x f es => pr (.mk x f es) (M.bind (evs es) fun ts => mkC x f (OT.views ts))
  | .cv j tbl es => pr (.cv j tbl es) (M.bind (M.get j) fun t => (match t with
    | .fz (.fn x) => (match tbl.lookup x with
      | some f => M.bind (evs es) fun ts => callC f (OT.views ts)
      | none => fun _ => .bad)
    | _ => fun _ => .bad))
  | .dc tg k its kx vx own => pr (.dc tg k its kx vx own) (M.bind (evs its) fun ts => M.bind (M.lift (itemsOf k (OT.views ts))) fun xs => dcRun own tg (sem kx).1 (sem vx).1 xs)
  | .fzz a => pr (.fzz a) (M.bind (sem a).1 fun t => M.pure (.fz t.view))
  | .wkn a => pr (.wkn a) (M.bind (sem a).1 fun t => M.pure t.wk)
  | .tix a b => pr (.tix a b) (M.bind (opd a (sem a).1) fun ra => M.bind (tpM a ra) fun _ => M.bind (opd b (sem b).1) fun rb => M.bind (fin a ra) fun x => M.bind (fin b rb) fun y => M.lift (idxD x y))
  | .lc tg k its c x own => pr (.lc tg k its c x own) (M.bind (evs its) fun ts => M.bind (M.lift (itemsOf k (OT.views ts))) fun xs =>
      lcRun own tg (semOpt c) (sem x).1 xs)
  | .lcO tg k its c x own => pr (.lcO tg k its c x own) (M.bind (evs its) fun ts => M.bind (M.lift (itemsOf k (OT.views ts))) fun xs =>
      lcRunO own tg (semOpt c) (sem x).1 xs)
  | .lcD tg k x c y own => pr (.lcD tg k x c y own) (M.bind (sem x).1 fun t => M.bind (M.lift (itemsOf k [t.view])) fun xs =>
      lcRun own tg (semOpt c) (sem y).1 xs)
  | .dcD tg k x kx vx own => pr (.dcD tg k x kx vx own) (M.bind (sem x).1 fun t => M.bind (M.lift (itemsOf k [t.view])) fun xs => dcRun own tg (sem kx).1 (sem vx).1 xs)
  | .dcN tg k its kx vx own => pr (.dcN tg k its kx vx own) (M.bind (evs its) fun ts => M.bind (M.lift (itemsOf k (OT.views ts))) fun xs => dcRunN own tg (sem kx).1 (sem vx).1 xs)
noncomputable def evs : List IE → M (List OT)
  | [] => M.pure []
  | x :: r => M.bind (sem x).1 fun t => M.bind (evs r) fun ts => M.pure (t :: ts)
noncomputable def evOps : List IE → M (List (Option D))
  | [] => M.pure []
  | x :: r => M.bind (opd x (sem x).1) fun t => M.bind (evOps r) fun ts => M.pure (t :: ts)
noncomputable def evOpt : Option IE → M (Option Int)
  | none => M.pure none
  | some x => M.bind (sem x).1 fun t => intK t.view
noncomputable def evArgs : List Bool → List IE → M (List (Slot × Option Nat))
  | _, [] => M.pure []
  | ms, x :: r => M.bind (argOf (ms.headD false) x (sem x).1) fun a => M.bind (evArgs ms.tail r) fun as => M.pure (a :: as)
noncomputable def evAnd : List IE → M OT
  | [] => fun _ => .bad
  | x :: r => match r with
    | [] => (sem x).1
    | _ :: _ => M.bind (sem x).1 fun t => andK t.view (evAnd r)
noncomputable def evOr : List IE → M OT
  | [] => fun _ => .bad
  | x :: r => match r with
    | [] => (sem x).1
    | _ :: _ => M.bind (sem x).1 fun t => orK t.view (evOr r)
noncomputable def tstAnd : List IE → M Bool
  | [] => M.pure true
  | x :: r => M.bind (sem x).2 fun b => (match b with
    | true => tstAnd r
    | false => M.pure false)
noncomputable def tstOr : List IE → M Bool
  | [] => M.pure false
  | x :: r => M.bind (sem x).2 fun b => (match b with
    | false => tstOr r
    | true => M.pure true)
noncomputable def semOpt : Option IE → M Bool
  | none => M.pure true
  | some x => (sem x).2
end

/-! ### statements -/
inductive SR where
  | bad | nx (e : Ev) | ret (t : OT) (e : Ev) | brk (e : Ev) | ct (e : Ev) | exn (x : Exn) (e : Ev)
def R.st {α : Type} : R α → (α → Ev → SR) → SR
  | .bad, _ => .bad
  | .ok a e, f => f a e
  | .exn x e, _ => .exn x e
@[simp] theorem R.st_bad {α : Type} (f : α → Ev → SR) : (R.bad : R α).st f = .bad := rfl
@[simp] theorem R.st_ok {α : Type} (a : α) (e : Ev) (f : α → Ev → SR) : (R.ok a e).st f = f a e := rfl
@[simp] theorem R.st_exn {α : Type} (x : Exn) (e : Ev) (f : α → Ev → SR) : (R.exn x e : R α).st f = .exn x e := rfl
@[simp] def ofO : Option Ev → SR
  | some e => .nx e
  | none => .bad
/-- behind a loop's turn -/
def SR.lp (k : Ev → SR) : SR → SR
  | .nx e => k e
  | .ct e => k e
  | .brk e => .nx e
  | .bad => .bad
  | .ret t e => .ret t e
  | .exn x e => .exn x e
@[simp] theorem SR.lp_nx (k : Ev → SR) (e : Ev) : (SR.nx e).lp k = k e := rfl
@[simp] theorem SR.lp_ct (k : Ev → SR) (e : Ev) : (SR.ct e).lp k = k e := rfl
@[simp] theorem SR.lp_brk (k : Ev → SR) (e : Ev) : (SR.brk e).lp k = .nx e := rfl
@[simp] theorem SR.lp_bad (k : Ev → SR) : (SR.bad).lp k = .bad := rfl
@[simp] theorem SR.lp_ret (k : Ev → SR) (t : OT) (e : Ev) : (SR.ret t e).lp k = .ret t e := rfl
@[simp] theorem SR.lp_exn (k : Ev → SR) (x : Exn) (e : Ev) : (SR.exn x e).lp k = .exn x e := rfl
/-- behind a statement -/
def SR.sq (k : Ev → SR) : SR → SR
  | .nx e => k e
  | .ct e => .ct e
  | .brk e => .brk e
  | .bad => .bad
  | .ret t e => .ret t e
  | .exn x e => .exn x e
@[simp] theorem SR.sq_nx (k : Ev → SR) (e : Ev) : (SR.nx e).sq k = k e := rfl
@[simp] theorem SR.sq_ct (k : Ev → SR) (e : Ev) : (SR.ct e).sq k = .ct e := rfl
@[simp] theorem SR.sq_brk (k : Ev → SR) (e : Ev) : (SR.brk e).sq k = .brk e := rfl
@[simp] theorem SR.sq_bad (k : Ev → SR) : (SR.bad).sq k = .bad := rfl
@[simp] theorem SR.sq_ret (k : Ev → SR) (t : OT) (e : Ev) : (SR.ret t e).sq k = .ret t e := rfl
@[simp] theorem SR.sq_exn (k : Ev → SR) (x : Exn) (e : Ev) : (SR.exn x e).sq k = .exn x e := rfl
/-- nothing is raised -/
def SR.noE : SR → SR
  | .exn _ _ => .bad
  | .nx e => .nx e
  | .ct e => .ct e
  | .brk e => .brk e
  | .bad => .bad
  | .ret t e => .ret t e
@[simp] theorem SR.noE_nx (e : Ev) : (SR.nx e).noE = .nx e := rfl
@[simp] theorem SR.noE_ret (t : OT) (e : Ev) : (SR.ret t e).noE = .ret t e := rfl
@[simp] theorem SR.noE_bad : (SR.bad).noE = .bad := rfl
def forGo (tg : TGt) (body : Ev → SR) : List D → Ev → SR
  | [], e => .nx e
  | d :: ds, e => match bindT tg d e with
    | none => .bad
    | some e1 => (body e1).lp (forGo tg body ds)
def whGo (c : M Bool) (body : Ev → SR) : Nat → Ev → SR
  | 0, _ => .bad
  | n + 1, e => (c e).st fun b e1 => pickB b ((body e1).lp (whGo c body n)) (.nx e1)
/-- there a list stands that may be changed -/
@[simp] def lstAt (j : Nat) (ss : List Wy) (e : Ev) (r : SR) : SR := match (e.at j).bind fun t => nav e t ss with
  | some (.lst _) => r
  | _ => .bad
def extK (d : D) (f : List D → SR) : SR := match d with
  | .lst ds => f ds
  | _ => .bad
/-- an exception of the class c is caught -/
def tryS (c : Str) (h : List (Str × D) → Ev → SR) : SR → SR
  | .exn x e => if x.cls = c then h x.fs e else .bad
  | .bad => .bad
  | .nx e => .nx e
  | .ret t e => .ret t e
  | .brk e => .brk e
  | .ct e => .ct e
def retF (j : Nat) (f : Str) (fs : List (Str × D)) (e : Ev) : SR := if j < e.length then (match fs with
  | [(g, d)] => if g = f then .ret (.fz d) e else .bad
  | _ => .bad) else .bad
mutual
noncomputable def run1 : IS → Ev → SR
  | .asg j x, e => ((sem x).1 e).st fun t e1 => .nx (e1.set j (some t))
  | .asgT tg x, e => ((sem x).1 e).st fun t e1 => ofO (bindT tg t.view e1)
  | .par i j a b, e => ((evs [a, b]) e).st fun ts e2 => (match OT.views ts with
    | [t, u] => .nx ((e2.set i (some (.fz t))).set j (some (.fz u)))
    | _ => .bad)
  | .sto j ss k x, e => ((sem x).1 e).st fun t e1 => ((M.bind (M.get j) fun _ => M.bind (opd k (sem k).1) fun r => fin k r) e1).st fun d e2 => ofO (updAt j ss (stoO d t) e2)
  | .aug j _ g x, e => ((M.bind (M.get j) fun t => M.bind (opd x (sem x).1) fun r => M.bind (fin x r) fun d => M.lift (g t.view d)) e).st fun d e1 => .nx (e1.set j (some (.fz d)))
  | .app j ss x, e => lstAt j ss e (((sem x).1 e).st fun t e1 => ofO (updAt j ss (appO t) e1))
  | .ext j ss x, e => lstAt j ss e (((sem x).1 e).st fun t e1 => extK t.view fun ds => ofO (updAt j ss (extO ds) e1))
  | .ex x, e => ((sem x).1 e).st fun _ e1 => .nx e1
  | .ret x, e => ((sem x).1 e).st fun t e1 => .ret t e1
  | .retN, e => .ret (.fz .non) e
  | .iff c a b, e => ((sem c).2 e).st fun k e1 => pickB k (run a e1) (run b e1)
  | .for_ tg k its body, e => ((M.bind (evs its) fun ts => M.lift (itemsOf k (OT.views ts))) e).st fun xs e1 => forGo tg (run body) xs e1
  | .ford tg k x body, e => ((M.bind (sem x).1 fun t => M.lift (itemsOf k [t.view])) e).st fun xs e1 => (forGo tg (run body) xs e1).noE
  | .whl n c body, e => whGo (sem c).2 (run body) n e
  | .brk, e => .brk e
  | .cont, e => .ct e
  | .pass, e => .nx e
  | .sta j c f x, e => ((sem x).1 e).st fun t e1 => ofO (updAt j [] (staO c f t) e1)
  | .apq j ss x, e => (match e.at j with
    | some t0 => (match nav e t0 ss with
      | some (.lst _) => ((sem x).1 (e.set j none)).st fun t e1 => (match setAt e (appO t) t0 ss with
        | some t' => .nx (e1.set j (some t'))
        | none => .bad)
      | _ => .bad)
    | none => .bad)
  | .stp j ss w x, e => ((sem x).1 e).st fun t e1 => ofO (updAt j ss (stpO e1 w t) e1)
  | .aga j c f i, e => ofO (updAt j [] (agaO c f i) e)
  | .hk f, e => (match f e with
    | none => .bad
    | some (none, e') => .nx e'
    | some (some t, e') => .ret t e')
  | .tryR body c j f, e => tryS c (retF j f) (run body e)
  | .tryC body c x, e => tryS c (fun _ e1 => (noX ((sem x).1 e1)).st fun t e2 => .ret t e2) (run body e)
  | .rais _ mk es, e => ((M.bind (evs es) fun ts => M.lift (mk (OT.views ts))) e).st fun x e1 => .exn x e1
noncomputable def run : List IS → Ev → SR
  | [], e => .nx e
  | s :: ss, e => (run1 s e).sq (run ss)
end
/-- a def: how many names it has, which parameters it may change, its body -/
structure Def where
  n : Nat
  ms : List Bool
  body : List IS
@[simp] def keepO : List Bool → List Slot → List Slot
  | true :: ms, o :: os => o :: keepO ms os
  | false :: ms, _ :: os => none :: keepO ms os
  | _ :: ms, [] => none :: keepO ms []
  | [], _ => []
def endOf (ms : List Bool) : SR → Out
  | .nx e => .ok (.fz .non) (keepO ms e)
  | .ret t e => .ok t (keepO ms e)
  | .exn x e => .exn x (keepO ms e)
  | _ => .bad
noncomputable def Def.fn (f : Def) : Fn := fun as => endOf f.ms (run f.body (as ++ List.replicate (f.n - f.ms.length) none))
end Rx
end

section
/-! Rx: operations on values, what they yield (plain Lean). -/
namespace Rx
open PySem
/-! ### what they yield -/
def addD : D → D → Option OT
  | .int i, .int j => some (.fz (.int (i + j)))
  | .str x, .str y => if x.length + y.length ≤ sizeMax then some (.fz (.str (x ++ y))) else none
  | .lst xs, .lst ys => if xs.length + ys.length ≤ sizeMax then some (.ml (xs ++ ys)) else none
  | .tup xs, .tup ys => if xs.length + ys.length ≤ sizeMax then some (.fz (.tup (xs ++ ys))) else none
  | _, _ => none
def subD : D → D → Option OT
  | .int i, .int j => some (.fz (.int (i - j)))
  | _, _ => none
def mulD : D → D → Option OT
  | .int i, .int j => if i.natAbs < 18446744073709551616 ∨ j.natAbs < 18446744073709551616 then some (.fz (.int (i * j))) else none
  | .lst xs, .int k => if -9223372036854775808 ≤ k ∧ k < 9223372036854775808 ∧ xs.length * k.toNat ≤ sizeMax then some (.ml (List.replicate k.toNat xs).flatten) else none
  | .tup xs, .int k => if k = 1 then some (.fz (.tup xs)) else if xs ≠ [] ∧ 2 ≤ k ∧ k ≤ 1000 ∧ xs.length ≤ 1000 then some (.fz (.tup (List.replicate k.toNat xs).flatten)) else none
  | _, _ => none
def fdivD : D → D → Option OT
  | .int i, .int j => if 0 < j ∧ j < 1073741824 then some (.fz (.int (i / j))) else none
  | _, _ => none
def modD : D → D → Option OT
  | .int i, .int j => if 0 < j then some (.fz (.int (i % j))) else none
  | _, _ => none
def powD : D → D → Option OT
  | .int i, .int j => if 0 ≤ j ∧ j ≤ 1000000 ∧ i.natAbs < 2 ^ 64 then some (.fz (.int (i ^ j.toNat))) else none
  | _, _ => none
def ltD : D → D → Option Bool
  | .int i, .int j => some (decide (i < j))
  | _, _ => none
def leD : D → D → Option Bool
  | .int i, .int j => some (decide (i ≤ j))
  | _, _ => none
def gtD : D → D → Option Bool
  | .int i, .int j => some (decide (j < i))
  | _, _ => none
def geD : D → D → Option Bool
  | .int i, .int j => some (decide (j ≤ i))
  | _, _ => none
def eqD (a b : D) : Option Bool := if D.eqok 60 a = true ∧ D.eqok 60 b = true then some (D.eqv a b) else none
def neD (a b : D) : Option Bool := if D.eqok 60 a = true ∧ D.eqok 60 b = true then some (!D.eqv a b) else none
def inSeq (a : D) (xs : List D) : Option Bool := if D.eqok 60 a = true ∧ D.eqoks 60 xs = true then some (xs.any fun z => D.eqv z a) else none
noncomputable def inD (a b : D) : Option Bool := match b with
  | .lst xs => inSeq a xs
  | .tup xs => inSeq a xs
  | .str y => (match a with
    | .str [c] => some (decide (c ∈ y))
    | _ => none)
  | .dic kvs => if isKey a = true then some (hasD kvs a) else none
  | .din kvs => if isKeyN a = true then some (hasD kvs a) else none
  | _ => none
noncomputable def ninD (a b : D) : Option Bool := (inD a b).map (!·)
/-- a dict of pairs -/
noncomputable def pairsD : List D → List (D × D) → Option (List (D × D))
  | [], acc => some acc
  | .tup [k, v] :: r, acc => if isKey k = true then pairsD r (putD acc k v) else none
  | _ :: _, _ => none
noncomputable def dictB : List D → Option OT
  | [.lst xs] => (pairsD xs []).map .dic
  | [.dic kvs] => some (.dic kvs)
  | _ => none
def minB : List D → Option OT
  | [.int i, .int j] => some (.fz (.int (if j < i then j else i)))
  | _ => none
/-- d.get(k) -/
noncomputable def getDk : D → List D → Option OT
  | .dic kvs, [k] => if isKey k = true then some (.fz ((lookD kvs k).getD .non)) else none
  | _, _ => none
/-- is: None, True, False -/
def isD (a b : D) : Option Bool := match b with
  | .non => (match a with
    | .non => some true
    | _ => some false)
  | .bl y => (match a with
    | .bl x => some (x == y)
    | _ => none)
  | _ => none
def nisD (a b : D) : Option Bool := (isD a b).map (!·)
def negD : D → Option D
  | .int i => some (.int (-i))
  | _ => none
def lenD : List D → Option OT
  | [.str s] => some (.fz (intD s.length))
  | [.tup xs] => some (.fz (intD xs.length))
  | [.lst xs] => some (.fz (intD xs.length))
  | [.lk xs] => some (.fz (intD xs.length))
  | [.ali _ n] => some (.fz (intD n))
  | [.dic kvs] => some (.fz (intD kvs.length))
  | [.din kvs] => some (.fz (intD kvs.length))
  | _ => none
def absD : List D → Option OT
  | [.int i] => some (.fz (.int (if i < 0 then -i else i)))
  | _ => none
def intB : List D → Option OT
  | [.int i] => some (.fz (.int i))
  | [.bl k] => some (.fz (.int (if k then 1 else 0)))
  | _ => none

def blsOf : List D → Option (List Bool)
  | [] => some []
  | .bl b :: r => (blsOf r).map (b :: ·)
  | _ :: _ => none
def allB : List D → Option OT
  | [.lst xs] => (blsOf xs).map fun bs => .fz (.bl (bs.all id))
  | _ => none
def anyB : List D → Option OT
  | [.lst xs] => (blsOf xs).map fun bs => .fz (.bl (bs.any id))
  | _ => none
def listB : List D → Option OT
  | [.lst xs] => some (.ml xs)
  | [.lk xs] => some (.ml xs)
  | [.tup xs] => some (.ml xs)
  | _ => none
def tupB : List D → Option OT
  | [.lst xs] => some (.fz (.tup xs))
  | [.tup xs] => some (.fz (.tup xs))
  | _ => none
def isiB (d : D) : String → Option Bool
  | "bool" => d.ty.map (· == "bool")
  | "int" => d.ty.map fun t => t == "int" || t == "bool"
  | "str" => d.ty.map (· == "str")
  | "tuple" => d.ty.map (· == "tuple")
  | "list" => d.ty.map (· == "list")
  | "dict" => d.ty.map (· == "dict")
  | _ => none
def isiD (T : String) : D → List D → Option OT := fun d _ => (isiB d T).map fun b => .fz (.bl b)
@[simp] theorem addD_int (i j : Int) : addD (.int i) (.int j) = some (.fz (.int (i + j))) := rfl
@[simp] theorem addD_str (x y : List Nat) : addD (.str x) (.str y) = if x.length + y.length ≤ sizeMax then some (.fz (.str (x ++ y))) else none := rfl
@[simp] theorem addD_lst (xs ys : List D) : addD (.lst xs) (.lst ys) = if xs.length + ys.length ≤ sizeMax then some (.ml (xs ++ ys)) else none := rfl
@[simp] theorem addD_tup (xs ys : List D) : addD (.tup xs) (.tup ys) = if xs.length + ys.length ≤ sizeMax then some (.fz (.tup (xs ++ ys))) else none := rfl
@[simp] theorem subD_int (i j : Int) : subD (.int i) (.int j) = some (.fz (.int (i - j))) := rfl
@[simp] theorem modD_int (i j : Int) : modD (.int i) (.int j) = if 0 < j then some (.fz (.int (i % j))) else none := rfl
@[simp] theorem ltD_int (i j : Int) : ltD (.int i) (.int j) = some (decide (i < j)) := rfl
@[simp] theorem leD_int (i j : Int) : leD (.int i) (.int j) = some (decide (i ≤ j)) := rfl
@[simp] theorem gtD_int (i j : Int) : gtD (.int i) (.int j) = some (decide (j < i)) := rfl
@[simp] theorem geD_int (i j : Int) : geD (.int i) (.int j) = some (decide (j ≤ i)) := rfl
@[simp] theorem lenD_str (xs : List Nat) : lenD [.str xs] = some (.fz (intD xs.length)) := rfl
@[simp] theorem lenD_tup (xs : List D) : lenD [.tup xs] = some (.fz (intD xs.length)) := rfl
@[simp] theorem lenD_lst (xs : List D) : lenD [.lst xs] = some (.fz (intD xs.length)) := rfl
@[simp] theorem lenD_ali (a n : Nat) : lenD [.ali a n] = some (.fz (intD n)) := rfl
@[simp] theorem lenD_lk (xs : List D) : lenD [.lk xs] = some (.fz (intD xs.length)) := rfl
@[simp] theorem lenD_din (xs : List (D × D)) : lenD [.din xs] = some (.fz (intD xs.length)) := rfl
@[simp] theorem lenD_dic (xs : List (D × D)) : lenD [.dic xs] = some (.fz (intD xs.length)) := rfl
@[simp] theorem absD_int (i : Int) : absD [.int i] = some (.fz (.int (if i < 0 then -i else i))) := rfl
@[simp] theorem intB_int (i : Int) : intB [.int i] = some (.fz (.int i)) := rfl
@[simp] theorem intB_bl (k : Bool) : intB [.bl k] = some (.fz (.int (if k then 1 else 0))) := rfl
@[simp] theorem truth_non : D.truth .non = some false := rfl
@[simp] theorem truth_bl (b : Bool) : D.truth (.bl b) = some b := rfl
@[simp] theorem truth_int (i : Int) : D.truth (.int i) = some (i != 0) := rfl
@[simp] theorem truth_str (s : List Nat) : D.truth (.str s) = some (!s.isEmpty) := rfl
@[simp] theorem truth_tup (s : List D) : D.truth (.tup s) = some (!s.isEmpty) := rfl
@[simp] theorem truth_lst (s : List D) : D.truth (.lst s) = some (!s.isEmpty) := rfl
@[simp] theorem listB_lst (s : List D) : listB [.lst s] = some (.ml s) := rfl
@[simp] theorem listB_lk (s : List D) : listB [.lk s] = some (.ml s) := rfl
@[simp] theorem listB_tup (s : List D) : listB [.tup s] = some (.ml s) := rfl
@[simp] theorem tupB_lst (s : List D) : tupB [.lst s] = some (.fz (.tup s)) := rfl
@[simp] theorem tupB_tup (s : List D) : tupB [.tup s] = some (.fz (.tup s)) := rfl
/-- isinstance(x, C), x an instance of C -/
def isiC (c : Str) : D → List D → Option OT := fun d _ => match d with
  | .ins c' _ => if c' = c then some (.fz (.bl true)) else none
  | _ => none
/-- RightsError(reason) -/
def reOf : List D → Option Exn
  | [d] => some ⟨"RightsError", [("reason", d)]⟩
  | _ => none
end Rx
end

section
/-! sorted, on data that are alike (plain Lean) -/
namespace Rx
open PySem
abbrev Tk := Int ⊕ List Nat
mutual
def D.toks : D → List Tk
  | .bl b => [.inl (if b = true then 1 else 0)]
  | .int i => [.inl i]
  | .str s => [.inr s]
  | .lst xs => D.tokss xs
  | .tup xs => D.tokss xs
  | _ => []
def D.tokss : List D → List Tk
  | [] => [.inl 0]
  | x :: xs => .inl 1 :: (D.toks x ++ D.tokss xs)
end
mutual
def D.alike : D → D → Bool
  | .non, .non => true
  | .bl _, .bl _ => true
  | .int _, .int _ => true
  | .str _, .str _ => true
  | .lst xs, .lst ys => D.alikes xs ys
  | .tup xs, .tup ys => D.alikes xs ys
  | _, _ => false
def D.alikes : List D → List D → Bool
  | x :: xs, y :: ys => D.alike x y && D.alikes xs ys
  | [], _ => true
  | _ :: _, [] => true
end
def tkLt : Tk → Tk → Bool
  | .inl a, .inl b => decide (a < b)
  | .inl _, .inr _ => true
  | .inr _, .inl _ => false
  | .inr a, .inr b => decide (a < b)
def tksLt : List Tk → List Tk → Bool
  | [], [] => false
  | [], _ :: _ => true
  | _ :: _, [] => false
  | x :: r, y :: t => tkLt x y || (!tkLt y x && tksLt r t)
/-- a before b, or as b -/
def D.le (a b : D) : Bool := !tksLt (D.toks b) (D.toks a)
def isTup1 : D → Bool
  | .tup (_ :: _) => true
  | _ => false
def notTN : D → Bool
  | .int _ => true
  | .str _ => true
  | _ => false
def sortOk (xs : List D) : Bool := D.eqoks 60 xs && (xs.all fun a => xs.all fun b => D.alike a b) && (xs.all isTup1 || xs.all notTN)
def sortedB : List D → Option OT
  | [.lst xs] => if xs.length < 2 then some (.ml xs) else if sortOk xs = true ∧ xs.length ≤ sizeMax then some (.ml (xs.mergeSort D.le)) else none
  | _ => none
/-- .. of a dict whose keys are tuples -/
def sortedN : List D → Option OT
  | [.din kvs] => if sortOk (kvs.map (·.1)) = true ∧ kvs.length ≤ sizeMax then some (.ml ((kvs.map (·.1)).mergeSort D.le)) else none
  | _ => none
end Rx
end

section
/-! what World.read and World.write do (plain Lean) -/
namespace Rx
open PySem
/-- the world, by its parts -/
abbrev wO (ts bs : List OT) (x : OT) : OT := .ins "World" [("things", .lst ts), ("breaches", .lst bs), ("executed", x)]
abbrev thO (nm : OT) (k : List Nat) (ks : List D) (vl : OT) : OT := .ins "Thing" [("name", nm), ("kind", .fz (.tup (.str k :: ks))), ("value", vl)]
def brk (c : Nat) (i : Int) (k : List Nat) (bs : List OT) : List OT := if c ∈ k then bs else bs ++ [.fz (.tup [.str [c], .int i])]
inductive ReadR : List (Option OT) → Option OT × List (Option OT) → Prop
  | mk {ts bs : List OT} {x nm : OT} {i : Int} {n : Nat} {k : List Nat} {ks : List D} {v : D} {s2 : Option OT} : plc ts.length i = some n → ts[n]? = some (thO nm k ks (.fz v)) → bs.length < sizeMax →
    ReadR [some (wO ts bs x), some (.fz (.int i)), s2] (some (.fz v), [some (wO ts (brk 114 i k bs) x), some (.fz (.int i)), none])
inductive WriteR : List (Option OT) → Option OT × List (Option OT) → Prop
  | mk {ts bs : List OT} {x nm vl : OT} {i : Int} {n : Nat} {k : List Nat} {ks : List D} {v : D} {s3 : Option OT} : plc ts.length i = some n → ts[n]? = some (thO nm k ks vl) → bs.length < sizeMax →
    WriteR [some (wO ts bs x), some (.fz (.int i)), some (.fz v), s3] (none, [some (wO (ts.set n (thO nm k ks (.fz v))) (brk 119 i k bs) x), some (.fz (.int i)), some (.fz v), none])
open Classical in
noncomputable def readS : List (Option OT) → Option (Option OT × List (Option OT)) := fun e => if h : ∃ r, ReadR e r then some h.choose else none
open Classical in
noncomputable def writeS : List (Option OT) → Option (Option OT × List (Option OT)) := fun e => if h : ∃ r, WriteR e r then some h.choose else none
theorem ReadR.uniq {e : List (Option OT)} {r r' : Option OT × List (Option OT)} (h : ReadR e r) (h' : ReadR e r') : r = r' := by
  cases h with
  | mk a1 a2 a3 =>
    cases h' with
    | mk b1 b2 b3 =>
      rw [a1] at b1; cases b1
      rw [a2] at b2; cases b2
      rfl
theorem WriteR.uniq {e : List (Option OT)} {r r' : Option OT × List (Option OT)} (h : WriteR e r) (h' : WriteR e r') : r = r' := by
  cases h with
  | mk a1 a2 a3 =>
    cases h' with
    | mk b1 b2 b3 =>
      rw [a1] at b1; cases b1
      rw [a2] at b2; cases b2
      rfl
theorem readS_of {e : List (Option OT)} {r : Option OT × List (Option OT)} (h : ReadR e r) : readS e = some r := by
  have hh : ∃ r, ReadR e r := ⟨r, h⟩
  unfold readS
  rw [dif_pos hh, h.uniq hh.choose_spec]
theorem writeS_of {e : List (Option OT)} {r : Option OT × List (Option OT)} (h : WriteR e r) : writeS e = some r := by
  have hh : ∃ r, WriteR e r := ⟨r, h⟩
  unfold writeS
  rw [dif_pos hh, h.uniq hh.choose_spec]
theorem readS_some {e : List (Option OT)} {r : Option OT × List (Option OT)} (h : readS e = some r) : ReadR e r := by
  unfold readS at h
  split at h
  · rename_i hh; cases h; exact hh.choose_spec
  · cases h
theorem writeS_some {e : List (Option OT)} {r : Option OT × List (Option OT)} (h : writeS e = some r) : WriteR e r := by
  unfold writeS at h
  split at h
  · rename_i hh; cases h; exact hh.choose_spec
  · cases h
end Rx
end

section
/-! sum, join (plain Lean) -/
namespace Rx
open PySem
def intsOf : List D → Option (List Int)
  | [] => some []
  | .int i :: r => (intsOf r).map (i :: ·)
  | _ => none
def sumB : List D → Option OT
  | [.lst xs] => (intsOf xs).map fun ns => .fz (.int ns.sum)
  | _ => none
def strsOf : List D → Option (List (List Nat))
  | [] => some []
  | .str s :: r => (strsOf r).map (s :: ·)
  | _ => none
def joinL (s : List Nat) : List (List Nat) → List Nat
  | [] => []
  | [x] => x
  | x :: y :: r => x ++ s ++ joinL s (y :: r)
def joinD : D → List D → Option OT
  | .str s, [.lst xs] => (match strsOf xs with
    | some ys => if (ys.map List.length).sum + ys.length * s.length ≤ 100000 ∧ (∀ c ∈ joinL s ys, c < 0x110000) ∧ (joinL s ys).length ≤ 200000 then some (.fz (.str (joinL s ys))) else none
    | none => none)
  | _, _ => none
end Rx
end

section
/-! == of two dicts (plain) -/
namespace Rx
open PySem
def okK (a : List (D × D)) : Bool := a.all fun p => D.eqok 60 p.2
/-- each entry of the one is one of b's -/
noncomputable def eqvK (b : List (D × D)) : List (D × D) → Bool
  | [] => true
  | (k, v) :: r => match lookD b k with
    | none => false
    | some y => D.eqv v y && eqvK b r
noncomputable def eqDd : D → D → Option Bool
  | .dic a, .dic b => if okK a = true ∧ okK b = true then some (decide (a.length = b.length) && eqvK b a) else none
  | _, _ => none
noncomputable def neDd (x y : D) : Option Bool := (eqDd x y).map fun b => !b
end Rx
end

section
/-! a list backwards (plain) -/
namespace Rx
open PySem
def revD : D → Option D
  | .lst xs => some (.lst xs.reverse)
  | _ => none
end Rx
end

section
/-! a dict in a list of dicts (plain) -/
namespace Rx
open PySem
/-- a dict that is one of a list's dicts: `not in` is False; else nothing is said -/
noncomputable def ninDd : D → D → Option Bool
  | .dic a, .lst bs => if okK a = true ∧ (bs.all fun b => match b with | .dic c => okK c | _ => false) = true ∧ (bs.any fun b => match b with | .dic c => decide (c.length = a.length) && eqvK a c | _ => false) = true then some false else none
  | _, _ => none
end Rx
end

section
/-! an instance is made, arguments by reference (plain) -/
namespace Rx
open PySem
def mkF (x : Str) (f : Fn) : Fn := fun ss => match f (some (.ins x []) :: ss) with
  | .ok (.fz .non) (some t :: outs) => .ok t outs
  | .exn z outs => .exn z outs.tail
  | _ => .bad
end Rx
end

section
/-! a block of a program is borrowed under a name of its own (plain Lean) -/
namespace Rx
open PySem
/-- a function of a program, as its own lists: name, parameters, body -/
abbrev FcO := OT × OT × List OT
def fcsO (fs : List FcO) : List OT := fs.map fun f => .lst [f.1, f.2.1, .lst f.2.2]
def fcO? : OT → Option FcO
  | .lst [n, ps, .lst b] => some (n, ps, b)
  | _ => none
def parseF : List OT → Option (List FcO)
  | [] => some []
  | t :: ts => (fcO? t).bind fun f => (parseF ts).map (f :: ·)
theorem fcO_some {t : OT} {f : FcO} (h : fcO? t = some f) : t = .lst [f.1, f.2.1, .lst f.2.2] := by
  unfold fcO? at h
  split at h
  · cases h; rfl
  · cases h
theorem parseF_some : ∀ {ts : List OT} {fs : List FcO}, parseF ts = some fs → ts = fcsO fs
  | [], fs, h => by cases h; rfl
  | t :: ts, fs, h => by
    simp only [parseF, Option.bind_eq_some_iff, Option.map_eq_some_iff] at h
    obtain ⟨f, h1, fs', h2, rfl⟩ := h
    rw [fcO_some h1, parseF_some h2]; rfl
theorem parseF_of : ∀ (fs : List FcO), parseF (fcsO fs) = some fs
  | [] => rfl
  | f :: fs => by
    have := parseF_of fs
    unfold fcsO at this ⊢
    simp [parseF, fcO?, this]
/-- the functions, the bodies by where they stand -/
def aliG (α : Nat → Nat) : Nat → List FcO → List D
  | _, [] => []
  | k, f :: fs => .lst [f.1.view, f.2.1.view, .ali (α k) f.2.2.length] :: aliG α (k + 1) fs
def kfz : Slot → Slot
  | some (.fz d) => some (.fz d)
  | _ => none
def envA (jF jR : Nat) (α : Nat → Nat) (fs : List FcO) (rows : List OT) (e : Ev) : Ev := ((e.map kfz).set jF (some (.fz (.lst (aliG α 1 fs))))).set jR (some (.fz (.ali (α 0) rows.length)))
def InjTo (n : Nat) (α : Nat → Nat) : Prop := ∀ i j, i ≤ n → j ≤ n → α i = α j → i = j
def blkAt (fs : List FcO) (rows : List OT) : Nat → Option (List OT)
  | 0 => some rows
  | i + 1 => (fs[i]?).map (·.2.2)
def putBk (jF jR : Nat) (fs : List FcO) (rows u : List OT) (e : Ev) : Nat → Ev
  | 0 => (e.set jR (some (.lst u))).set jF (some (.lst (fcsO fs)))
  | i + 1 => match fs[i]? with
    | some f => (e.set jF (some (.lst (fcsO (fs.set i (f.1, f.2.1, u)))))).set jR (some (.lst rows))
    | none => e
/-- which block stands at a -/
def findB (α : Nat → Nat) (n a : Nat) : Option Nat := (List.range (n + 1)).find? fun k => α k == a
/-- the block at a is changed under the name jb -/
noncomputable def borG (jF jR jb : Nat) (L : List Nat) (s2 : List IS) (α : Nat → Nat) (fs : List FcO) (rows : List OT) (a : Nat) (e : Ev) : Option Ev :=
  match findB α fs.length a with
  | some k => (match blkAt fs rows k with
    | some u => (match run s2 (e.set jb (some (.lst u))) with
      | .nx e' => (match e'.at jb with
        | some (.lst u') => some (wipeE (putBk jF jR fs rows u' (e'.set jb none) k) L)
        | _ => none)
      | _ => none)
    | none => none)
  | none => none
/-- a name is set to one of the blocks; then the block is changed -/
noncomputable def coreR (jF jR jb : Nat) (L : List Nat) (s1 s2 : List IS) (α : Nat → Nat) (fs : List FcO) (rows : List OT) (e : Ev) : Option Ev :=
  match run s1 (envA jF jR α fs rows e) with
  | .nx eA => if eA.length = e.length then (match eA.at jb with
    | some (.fz (.ali a _)) => borG jF jR jb L s2 α fs rows a (wipeE ((e.set jF none).set jR none) (jb :: L))
    | _ => none) else none
  | _ => none
def adrs : List OT → Option (List D)
  | [] => some []
  | t :: ts => match t with
    | .fz (.ali a _) => (adrs ts).map (.adr a :: ·)
    | _ => none
/-- a list of blocks is made; if there is one, a name is set to one of them, and the block is changed -/
noncomputable def coreN (jF jR jB jb : Nat) (s1 : List IS) (c : IE) (s3 : IS) (s2 : List IS) (α : Nat → Nat) (fs : List FcO) (rows : List OT) (e : Ev) : Option Ev :=
  match run s1 (envA jF jR α fs rows e) with
  | .nx eA => if eA.length = e.length then (match eA.at jB with
    | some (.lst ts) => (match adrs ts with
      | some ads => (match (sem c).2 ((wipeE ((e.set jF none).set jR none) [jb, jB]).set jB (some (.fz (.lst ads)))) with
        | .ok true e3 => (match run1 s3 e3 with
          | .nx e4 => (match e4.at jb with
            | some (.fz (.adr a)) => borG jF jR jb [jB] s2 α fs rows a e4
            | _ => none)
          | _ => none)
        | .ok false e3 => some (wipeE ((e3.set jF (some (.lst (fcsO fs)))).set jR (some (.lst rows))) [jb, jB])
        | _ => none)
      | none => none)
    | _ => none) else none
  | _ => none
open Classical in
noncomputable def brwS (jF jR : Nat) (core : (Nat → Nat) → List FcO → List OT → Ev → Option Ev) (e : Ev) : Option Ev :=
  match e.at jF, e.at jR with
  | some (.lst ts), some (.lst rows) => (match parseF ts with
    | some fs => if ∀ α, InjTo fs.length α → core α fs rows e = core id fs rows e then core id fs rows e else none
    | none => none)
  | _, _ => none
theorem brwS_some {jF jR : Nat} {core : (Nat → Nat) → List FcO → List OT → Ev → Option Ev} {e e' : Ev} (h : brwS jF jR core e = some e') :
    ∃ fs rows, e.at jF = some (.lst (fcsO fs)) ∧ e.at jR = some (.lst rows) ∧ ∀ α, InjTo fs.length α → core α fs rows e = some e' := by
  unfold brwS at h
  split at h
  · rename_i ts rows h1 h2
    split at h
    · rename_i fs hf
      split at h
      · rename_i hc
        exact ⟨fs, rows, by rw [h1, parseF_some hf], h2, fun α hα => (hc α hα).trans h⟩
      · cases h
    · cases h
  · cases h
theorem brwS_of {jF jR : Nat} {core : (Nat → Nat) → List FcO → List OT → Ev → Option Ev} {e e' : Ev} {fs : List FcO} {rows : List OT} (h1 : e.at jF = some (.lst (fcsO fs))) (h2 : e.at jR = some (.lst rows))
    (h : ∀ α, InjTo fs.length α → core α fs rows e = some e') : brwS jF jR core e = some e' := by
  unfold brwS
  rw [h1, h2]
  simp only [parseF_of]
  have hi : core id fs rows e = some e' := h id fun i j _ _ q => q
  rw [if_pos fun α hα => (h α hα).trans hi.symm, hi]
theorem findB_of {α : Nat → Nat} {n k : Nat} (hi : InjTo n α) (hk : k ≤ n) : findB α n (α k) = some k := by
  unfold findB
  rw [List.find?_eq_some_iff_getElem]
  refine ⟨by simp, k, by simpa using Nat.lt_succ_of_le hk, by simp, fun j hj => ?_⟩
  simp only [List.getElem_range, Bool.not_eq_true', beq_eq_false_iff_ne, ne_eq]
  intro q
  have h1 : j ≤ n := by omega
  have h2 := hi _ _ h1 hk q
  omega
noncomputable abbrev hkB (jF jR : Nat) (core : (Nat → Nat) → List FcO → List OT → Ev → Option Ev) : List (Option OT) → Option (Option OT × List (Option OT)) := fun e => (brwS jF jR core e).map fun e' => (none, e')
end Rx
end

section
/-! Rx, part 1: what it means that a value of the machine is a tree of data, that a slot holds a thing; steps of the heap. -/
namespace Rx
open PySem PySem.Spec PyProof.Rows L2

def strOf (s : List Nat) : Str := ⟨s.toArray⟩
def keyD : Key → D
  | .inl i => .int i
  | .inr z => .str z.cps.toList
def keyOkS : Key → Prop
  | .inl _ => True
  | .inr z => z.length ≤ sizeLine ∧ ∀ c ∈ z.cps.toList, c < 0x110000

/-- the program and the world that the dicts' hashes are of -/
class Prw where
  P : Program
  w : World
variable [Prw]
/-! a key, as the kit's dicts of nested keys have it -/
mutual
def nkOf : D → NestedKey
  | .int i => .num i
  | .str s => .text (strOf s)
  | .tup xs => .tup (nksOf xs)
  | _ => .none
def nksOf : List D → List NestedKey
  | [] => []
  | x :: xs => nkOf x :: nksOf xs
end
/-- the dict at a, of tuple keys: each key, where its tuple stands, its value -/
def DNo (a : Addr) (xs : List (D × Addr × V)) : Heap → Prop := fun h => xs.length ≤ sizeLine ∧ (a == sysModules) = false ∧ (xs.map fun x => nkOf x.1).Nodup ∧
  ∃ ys : List (NestedKey × Addr × Value), Paired (fun (p : D × Addr × V) (q : NestedKey × Addr × Value) => q.1 = nkOf p.1 ∧ q.2.1 = p.2.1 ∧ RelV p.2.2 q.2.2) xs ys ∧
    ∃ o es ep, h.get? a = some o ∧ o.ExactDict ∧ o.data = .dict es ep ∧ es.toList = ys.map (entryOfKey (nestedKind Prw.P Prw.w))
/-- that dict, tracked -/
def dNO (a : Addr) (xs : List (D × Addr × V)) : HO := .ext (DNo a xs)

section
variable (K : PySem.W.Frag) (mg : Str → Option Value)
mutual
/-- v is the data d; all that it consists of stands in F -/
inductive DR (F : Hp) : V → D → Prop
  | non : DR F .non .non
  | bl (b : Bool) : DR F (.bl b) (.bl b)
  | int (i : Int) : DR F (.int i) (.int i)
  | str {s : List Nat} : s.length ≤ sizeLine → (∀ c ∈ s, c < 0x110000) → DR F (.str (strOf s)) (.str s)
  | tup {a : Addr} {vs : List V} {ds : List D} : SqT K F a vs → vs.length ≤ sizeLine → DRs F vs ds → DR F (.ref a) (.tup ds)
  | lst {a : Addr} {vs : List V} {ds : List D} : F a = some (.lst vs) → vs.length ≤ sizeLine → DRs F vs ds → DR F (.ref a) (.lst ds)
  | lk {a : Addr} {vs : List V} {ds : List D} : SqL K F a vs → vs.length ≤ sizeLine → DRs F vs ds → DR F (.ref a) (.lk ds)
  | dK {a : Addr} {kvs : List (Key × V)} {ds : List (D × D)} : Rd F a (.dK kvs) → DRk F kvs ds → DR F (.ref a) (.dic ds)
  | dN {a : Addr} {xs : List (D × Addr × V)} {ds : List (D × D)} : Rd F a (dNO a xs) → DRn F xs ds → DR F (.ref a) (.din ds)
  | ins {a C dx : Addr} {c : Str} {fs : List (Str × V)} {ds : List (Str × D)} : F a = some (.ins C dx fs) → mg c = some (.ref C) → DRf F fs ds → DR F (.ref a) (.ins c ds)
  | fn {a : Addr} {f : Str} : mg f = some (.ref a) → DR F (.ref a) (.fn f)
  | adr {a : Addr} : DR F (.ref a) (.adr a)
  | tpn {a : Addr} {o : Obj} {vs : List V} {ds : List D} : F a = some (.frz o (.tup vs)) → o.cls = .type "tuple" → o.dict = none → vs.length ≤ sizeLine → DRs F vs ds → DR F (.ref a) (.tpn ds)
  | ali {a : Addr} {vs : List V} : F a = some (.lst vs) → vs.length ≤ sizeLine → DR F (.ref a) (.ali a vs.length)
inductive DRs (F : Hp) : List V → List D → Prop
  | nil : DRs F [] []
  | cons {v : V} {d : D} {vs : List V} {ds : List D} : DR F v d → DRs F vs ds → DRs F (v :: vs) (d :: ds)
inductive DRk (F : Hp) : List (Key × V) → List (D × D) → Prop
  | nil : DRk F [] []
  | cons {k : Key} {v : V} {d : D} {vs : List (Key × V)} {ds : List (D × D)} : keyOkS k → DR F v d → DRk F vs ds → DRk F ((k, v) :: vs) ((keyD k, d) :: ds)
inductive DRn (F : Hp) : List (D × Addr × V) → List (D × D) → Prop
  | nil : DRn F [] []
  | cons {k d : D} {q : Addr} {v : V} {xs : List (D × Addr × V)} {ds : List (D × D)} : isKeyN k = true → DR F (.ref q) k → DR F v d → DRn F xs ds → DRn F ((k, q, v) :: xs) ((k, d) :: ds)
inductive DRf (F : Hp) : List (Str × V) → List (Str × D) → Prop
  | nil : DRf F [] []
  | cons {f : Str} {v : V} {d : D} {vs : List (Str × V)} {ds : List (Str × D)} : DR F v d → DRf F vs ds → DRf F ((f, v) :: vs) ((f, d) :: ds)
end
mutual
/-- v is the thing t: the addresses fp are its own -/
inductive OTR (H F : Hp) : V → OT → List Addr → Prop
  | fz {v : V} {d : D} : DR K mg F v d → OTR H F v (.fz d) []
  | lst {a : Addr} {vs : List V} {ts : List OT} {fp : List Addr} : H a = some (.lst vs) → vs.length ≤ sizeLine → OTRs H F vs ts fp → a ∉ fp → OTR H F (.ref a) (.lst ts) (a :: fp)
  | dK {a : Addr} {kvs : List (Key × V)} {ds : List (D × D)} : H a = some (.dK kvs) → DRk K mg F kvs ds → OTR H F (.ref a) (.dic ds) [a]
  | dN {a : Addr} {xs : List (D × Addr × V)} {ds : List (D × D)} : H a = some (dNO a xs) → DRn K mg F xs ds → OTR H F (.ref a) (.din ds) [a]
  | ins {a C dx : Addr} {c : Str} {fs : List (Str × V)} {ts : List (Str × OT)} {fp : List Addr} : H a = some (.ins C dx fs) → mg c = some (.ref C) → OTRf H F fs ts fp → a ∉ fp → OTR H F (.ref a) (.ins c ts) (a :: fp)
inductive OTRf (H F : Hp) : List (Str × V) → List (Str × OT) → List Addr → Prop
  | nil : OTRf H F [] [] []
  | cons {f : Str} {v : V} {t : OT} {vs : List (Str × V)} {ts : List (Str × OT)} {fp fps : List Addr} : OTR H F v t fp → OTRf H F vs ts fps → (∀ a ∈ fp, a ∉ fps) → OTRf H F ((f, v) :: vs) ((f, t) :: ts) (fp ++ fps)
inductive OTRs (H F : Hp) : List V → List OT → List Addr → Prop
  | nil : OTRs H F [] [] []
  | cons {v : V} {t : OT} {vs : List V} {ts : List OT} {fp fps : List Addr} : OTR H F v t fp → OTRs H F vs ts fps → (∀ a ∈ fp, a ∉ fps) → OTRs H F (v :: vs) (t :: ts) (fp ++ fps)
end
inductive SlR (H F : Hp) : Option V → Slot → List Addr → Prop
  | no {s : Option V} : SlR H F s none []
  | so {v : V} {t : OT} {fp : List Addr} : OTR K mg H F v t fp → SlR H F (some v) (some t) fp
inductive EvR (H F : Hp) : L2.St → Ev → List Addr → Prop
  | nil : EvR H F [] [] []
  | cons {s : Option V} {o : Slot} {σ : L2.St} {e : Ev} {fp fps : List Addr} : SlR K mg H F s o fp → EvR H F σ e fps → (∀ a ∈ fp, a ∉ fps) → EvR H F (s :: σ) (o :: e) (fp ++ fps)
end

section
variable {K : PySem.W.Frag} {mg : Str → Option Value} {H H' F F' : Hp}
theorem Same.seqT {a : Addr} {xs : List V} (e : Same H H') (h : SqT K H a xs) : SqT K H' a xs := by
  rcases h with (h | ⟨o, h⟩) | h
  · exact .inl (.inl (e _ _ h))
  · exact .inl (.inr ⟨o, e _ _ h⟩)
  · exact .inr h
theorem Same.rd {a : Addr} {u : HO} (e : Same H H') (h : Rd H a u) : Rd H' a u := h.imp (e _ _) fun ⟨o, q⟩ => ⟨o, e _ _ q⟩
mutual
theorem DR.mono (e : Same F F') : ∀ {v : V} {d : D}, DR K mg F v d → DR K mg F' v d
  | _, _, .non => .non
  | _, _, .bl b => .bl b
  | _, _, .int i => .int i
  | _, _, .str h h2 => .str h h2
  | _, _, .tup h hz r => .tup (Same.seqT e h) hz (DRs.mono e r)
  | _, _, .lst h hz r => .lst (e _ _ h) hz (DRs.mono e r)
  | _, _, .lk h hz r => .lk (e.seq h) hz (DRs.mono e r)
  | _, _, .dK h r => .dK (Same.rd e h) (DRk.mono e r)
  | _, _, .dN h r => .dN (Same.rd e h) (DRn.mono e r)
  | _, _, .ins h m r => .ins (e _ _ h) m (DRf.mono e r)
  | _, _, .fn m => .fn m
  | _, _, .adr => .adr
  | _, _, .ali h hz => .ali (e _ _ h) hz
  | _, _, .tpn h hc hd hz r => .tpn (e _ _ h) hc hd hz (DRs.mono e r)
theorem DRs.mono (e : Same F F') : ∀ {vs : List V} {ds : List D}, DRs K mg F vs ds → DRs K mg F' vs ds
  | _, _, .nil => .nil
  | _, _, .cons h r => .cons (DR.mono e h) (DRs.mono e r)
theorem DRk.mono (e : Same F F') : ∀ {vs : List (Key × V)} {ds : List (D × D)}, DRk K mg F vs ds → DRk K mg F' vs ds
  | _, _, .nil => .nil
  | _, _, .cons k h r => .cons k (DR.mono e h) (DRk.mono e r)
theorem DRn.mono (e : Same F F') : ∀ {vs : List (D × Addr × V)} {ds : List (D × D)}, DRn K mg F vs ds → DRn K mg F' vs ds
  | _, _, .nil => .nil
  | _, _, .cons z k h r => .cons z (DR.mono e k) (DR.mono e h) (DRn.mono e r)
theorem DRf.mono (e : Same F F') : ∀ {vs : List (Str × V)} {ds : List (Str × D)}, DRf K mg F vs ds → DRf K mg F' vs ds
  | _, _, .nil => .nil
  | _, _, .cons h r => .cons (DR.mono e h) (DRf.mono e r)
end
mutual
theorem OTR.keep (e : Same F F') : ∀ {v : V} {t : OT} {fp : List Addr}, (∀ a ∈ fp, ∀ o, H a = some o → H' a = some o) → OTR K mg H F v t fp → OTR K mg H' F' v t fp
  | _, _, _, _, .fz d => .fz (d.mono e)
  | _, _, _, k, .lst h hz r n => .lst (k _ List.mem_cons_self _ h) hz (OTRs.keep e (fun a ha => k a (List.mem_cons_of_mem _ ha)) r) n
  | _, _, _, k, .dK h r => .dK (k _ List.mem_cons_self _ h) (r.mono e)
  | _, _, _, k, .dN h r => .dN (k _ List.mem_cons_self _ h) (r.mono e)
  | _, _, _, k, .ins h m r n => .ins (k _ List.mem_cons_self _ h) m (OTRf.keep e (fun a ha => k a (List.mem_cons_of_mem _ ha)) r) n
theorem OTRf.keep (e : Same F F') : ∀ {vs : List (Str × V)} {ts : List (Str × OT)} {fp : List Addr}, (∀ a ∈ fp, ∀ o, H a = some o → H' a = some o) → OTRf K mg H F vs ts fp → OTRf K mg H' F' vs ts fp
  | _, _, _, _, .nil => .nil
  | _, _, _, k, .cons h r n => .cons (OTR.keep e (fun a ha => k a (List.mem_append_left _ ha)) h) (OTRf.keep e (fun a ha => k a (List.mem_append_right _ ha)) r) n
theorem OTRs.keep (e : Same F F') : ∀ {vs : List V} {ts : List OT} {fp : List Addr}, (∀ a ∈ fp, ∀ o, H a = some o → H' a = some o) → OTRs K mg H F vs ts fp → OTRs K mg H' F' vs ts fp
  | _, _, _, _, .nil => .nil
  | _, _, _, k, .cons h r n => .cons (OTR.keep e (fun a ha => k a (List.mem_append_left _ ha)) h) (OTRs.keep e (fun a ha => k a (List.mem_append_right _ ha)) r) n
end
theorem SlR.keep (e : Same F F') {s : Option V} {o : Slot} {fp : List Addr} (k : ∀ a ∈ fp, ∀ o, H a = some o → H' a = some o) (h : SlR K mg H F s o fp) : SlR K mg H' F' s o fp := by
  cases h with
  | no => exact .no
  | so h => exact .so (h.keep e k)
theorem EvR.keep (e : Same F F') : ∀ {σ : L2.St} {en : Ev} {fp : List Addr}, (∀ a ∈ fp, ∀ o, H a = some o → H' a = some o) → EvR K mg H F σ en fp → EvR K mg H' F' σ en fp
  | _, _, _, _, .nil => .nil
  | _, _, _, k, .cons h r n => .cons (h.keep e (fun a ha => k a (List.mem_append_left _ ha))) (EvR.keep e (fun a ha => k a (List.mem_append_right _ ha)) r) n
mutual
/-- what is owned is tracked -/
theorem OTR.there : ∀ {v : V} {t : OT} {fp : List Addr}, OTR K mg H F v t fp → ∀ a ∈ fp, ∃ o, H a = some o
  | _, _, _, .fz _ => fun _ h => nomatch h
  | _, _, _, .lst h _ r _ => fun a ha => by
    rcases List.mem_cons.mp ha with rfl | ha
    · exact ⟨_, h⟩
    · exact OTRs.there r a ha
  | _, _, _, .dK h _ => fun a ha => by
    rcases List.mem_cons.mp ha with rfl | ha
    · exact ⟨_, h⟩
    · cases ha
  | _, _, _, .dN h _ => fun a ha => by
    rcases List.mem_cons.mp ha with rfl | ha
    · exact ⟨_, h⟩
    · cases ha
  | _, _, _, .ins h _ r _ => fun a ha => by
    rcases List.mem_cons.mp ha with rfl | ha
    · exact ⟨_, h⟩
    · exact OTRf.there r a ha
theorem OTRf.there : ∀ {vs : List (Str × V)} {ts : List (Str × OT)} {fp : List Addr}, OTRf K mg H F vs ts fp → ∀ a ∈ fp, ∃ o, H a = some o
  | _, _, _, .nil => fun _ h => nomatch h
  | _, _, _, .cons h r _ => fun a ha => by
    rcases List.mem_append.mp ha with ha | ha
    · exact OTR.there h a ha
    · exact OTRf.there r a ha
theorem OTRs.there : ∀ {vs : List V} {ts : List OT} {fp : List Addr}, OTRs K mg H F vs ts fp → ∀ a ∈ fp, ∃ o, H a = some o
  | _, _, _, .nil => fun _ h => nomatch h
  | _, _, _, .cons h r _ => fun a ha => by
    rcases List.mem_append.mp ha with ha | ha
    · exact OTR.there h a ha
    · exact OTRs.there r a ha
end
theorem SlR.there {s : Option V} {o : Slot} {fp : List Addr} (h : SlR K mg H F s o fp) : ∀ a ∈ fp, ∃ o, H a = some o := by
  cases h with
  | no => exact fun _ h => nomatch h
  | so h => exact h.there
theorem EvR.there : ∀ {σ : L2.St} {en : Ev} {fp : List Addr}, EvR K mg H F σ en fp → ∀ a ∈ fp, ∃ o, H a = some o
  | _, _, _, .nil => fun _ h => nomatch h
  | _, _, _, .cons h r _ => fun a ha => by
    rcases List.mem_append.mp ha with ha | ha
    · exact h.there a ha
    · exact EvR.there r a ha
/-- what is owned becomes data: F with the owned objects -/
def frzF (F H : Hp) (fp : List Addr) : Hp := fun a => if a ∈ fp then H a else F a
theorem frzF_in {fp : List Addr} {a : Addr} (h : a ∈ fp) : frzF F H fp a = H a := if_pos h
theorem frzF_out {fp : List Addr} {a : Addr} (h : a ∉ fp) : frzF F H fp a = F a := if_neg h
mutual
theorem OTR.frz (e : Same F F') : ∀ {v : V} {t : OT} {fp : List Addr}, (∀ a ∈ fp, F' a = H a) → OTR K mg H F v t fp → DR K mg F' v t.view
  | _, _, _, _, .fz d => d.mono e
  | _, _, _, k, .lst h hz r n => .lst ((k _ List.mem_cons_self).trans h) hz (OTRs.frz e (fun a ha => k a (List.mem_cons_of_mem _ ha)) r)
  | _, _, _, k, .dK h r => .dK (.inl ((k _ List.mem_cons_self).trans h)) (r.mono e)
  | _, _, _, k, .dN h r => .dN (.inl ((k _ List.mem_cons_self).trans h)) (r.mono e)
  | _, _, _, k, .ins h m r n => .ins ((k _ List.mem_cons_self).trans h) m (OTRf.frz e (fun a ha => k a (List.mem_cons_of_mem _ ha)) r)
theorem OTRf.frz (e : Same F F') : ∀ {vs : List (Str × V)} {ts : List (Str × OT)} {fp : List Addr}, (∀ a ∈ fp, F' a = H a) → OTRf K mg H F vs ts fp → DRf K mg F' vs (OT.viewf ts)
  | _, _, _, _, .nil => .nil
  | _, _, _, k, .cons h r n => .cons (OTR.frz e (fun a ha => k a (List.mem_append_left _ ha)) h) (OTRf.frz e (fun a ha => k a (List.mem_append_right _ ha)) r)
theorem OTRs.frz (e : Same F F') : ∀ {vs : List V} {ts : List OT} {fp : List Addr}, (∀ a ∈ fp, F' a = H a) → OTRs K mg H F vs ts fp → DRs K mg F' vs (OT.views ts)
  | _, _, _, _, .nil => .nil
  | _, _, _, k, .cons h r n => .cons (OTR.frz e (fun a ha => k a (List.mem_append_left _ ha)) h) (OTRs.frz e (fun a ha => k a (List.mem_append_right _ ha)) r)
end
theorem same_frzF {fp : List Addr} (h : ∀ a ∈ fp, F a = none) : Same F (frzF F H fp) := fun a o e => by
  by_cases q : a ∈ fp
  · rw [h a q] at e; cases e
  · rw [frzF_out q]; exact e
theorem frzF_same {fp : List Addr} (h : Same F H) : Same (frzF F H fp) H := fun a o e => by
  by_cases q : a ∈ fp
  · rw [frzF_in q] at e; exact e
  · rw [frzF_out q] at e; exact h a o e

/-- a step: data stays, what is tracked and not owned stays; data comes of what is new or was owned -/
structure Stp (H F : Hp) (fp : List Addr) (H' F' : Hp) (fp' : List Addr) : Prop where
  fz : Same F F'
  ke : ∀ a o, H a = some o → a ∉ fp → H' a = some o
  fr : ∀ a o, F' a = some o → F a ≠ none ∨ H a = none ∨ a ∈ fp
  fp : ∀ a ∈ fp', a ∈ fp ∨ H a = none
theorem Stp.refl {fp : List Addr} : Stp H F fp H F fp := ⟨fun _ _ h => h, fun _ _ h _ => h, fun a o h => .inl (by rw [h]; simp), fun _ h => .inl h⟩
theorem Stp.trans {H1 F1 H2 F2 : Hp} {fp fp1 fp2 : List Addr} (s : Stp H F fp H1 F1 fp1) (t : Stp H1 F1 fp1 H2 F2 fp2) : Stp H F fp H2 F2 fp2 := by
  have back : ∀ a, H1 a = none → H a = none ∨ a ∈ fp := fun a h => by
    by_cases q : a ∈ fp
    · exact .inr q
    · cases e : H a with
      | none => exact .inl rfl
      | some o => rw [s.ke a o e q] at h; cases h
  refine ⟨s.fz.trans t.fz, fun a o h n => t.ke a o (s.ke a o h n) fun q => ?_, fun a o h => ?_, fun a h => ?_⟩
  · rcases s.fp a q with q | q
    · exact n q
    · rw [h] at q; cases q
  · rcases t.fr a o h with q | q | q
    · cases e : F1 a with
      | none => exact absurd e q
      | some o1 => exact s.fr a o1 e
    · exact (back a q).elim (fun z => .inr (.inl z)) fun z => .inr (.inr z)
    · exact (s.fp a q).elim (fun z => .inr (.inr z)) fun z => .inr (.inl z)
  · rcases t.fp a h with q | q
    · exact s.fp a q
    · exact (back a q).elim .inr .inl
/-- a subset of what is owned -/
theorem Stp.sub {fp fp' fp2 : List Addr} (s : Stp H F fp H' F' fp') (h : ∀ a ∈ fp2, a ∈ fp') : Stp H F fp H' F' fp2 := ⟨s.fz, s.ke, s.fr, fun a q => s.fp a (h a q)⟩
/-- beside more that is owned -/
theorem Stp.frame {fp fp' gp : List Addr} (s : Stp H F fp H' F' fp') : Stp H F (fp ++ gp) H' F' (fp' ++ gp) :=
  ⟨s.fz, fun a o h n => s.ke a o h fun q => n (List.mem_append_left _ q), fun a o h => (s.fr a o h).imp id fun q => q.imp id fun z => List.mem_append_left _ z,
   fun a q => (List.mem_append.mp q).elim (fun z => (s.fp a z).imp (List.mem_append_left _) id) fun z => .inl (List.mem_append_right _ z)⟩
theorem Stp.frameL {fp fp' gp : List Addr} (s : Stp H F fp H' F' fp') : Stp H F (gp ++ fp) H' F' (gp ++ fp') :=
  ⟨s.fz, fun a o h n => s.ke a o h fun q => n (List.mem_append_right _ q), fun a o h => (s.fr a o h).imp id fun q => q.imp id fun z => List.mem_append_right _ z,
   fun a q => (List.mem_append.mp q).elim (fun z => .inl (List.mem_append_left _ z)) fun z => (s.fp a z).imp (List.mem_append_right _) id⟩
/-- what is owned and not handed on stands as it stood, and is no data -/
theorem Stp.held {fp fp' gp : List Addr} (s : Stp H F fp H' F' fp') (ht : ∀ a ∈ gp, ∃ o, H a = some o) (hd : ∀ a ∈ gp, a ∉ fp) (hf : ∀ a ∈ gp, F a = none) :
    (∀ a ∈ gp, ∀ o, H a = some o → H' a = some o) ∧ (∀ a ∈ gp, F' a = none) ∧ (∀ a ∈ gp, a ∉ fp') := by
  refine ⟨fun a ha o h => s.ke a o h (hd a ha), fun a ha => ?_, fun a ha q => ?_⟩
  · cases e : F' a with
    | none => rfl
    | some o =>
      obtain ⟨u, hu⟩ := ht a ha
      rcases s.fr a o e with q | q | q
      · exact absurd (hf a ha) q
      · rw [hu] at q; cases q
      · exact absurd q (hd a ha)
  · obtain ⟨u, hu⟩ := ht a ha
    rcases s.fp a q with q | q
    · exact hd a ha q
    · rw [hu] at q; cases q
/-- a new object, owned by nobody yet, as data -/
theorem Stp.newF {fp : List Addr} {p : Addr} {o : HO} (h : H p = none) (hF : Same F H) : Stp H F fp (upd H p o) (upd F p o) fp := by
  have hFp : F p = none := Same.free hF h
  refine ⟨fun a u e => ?_, fun a u e _ => ?_, fun a u e => ?_, fun a q => .inl q⟩
  · rw [upd_ne (ne_of_none e hFp)]; exact e
  · rw [upd_ne (ne_of_none e h)]; exact e
  · by_cases q : a = p
    · subst q; exact .inr (.inl h)
    · rw [upd_ne q] at e; exact .inl (by rw [e]; simp)
/-- a new object, owned -/
theorem Stp.newO {fp : List Addr} {p : Addr} {o : HO} (h : H p = none) : Stp H F fp (upd H p o) F (p :: fp) := by
  refine ⟨fun a u e => e, fun a u e _ => ?_, fun a u e => .inl (by rw [e]; simp), fun a q => ?_⟩
  · rw [upd_ne (ne_of_none e h)]; exact e
  · rcases List.mem_cons.mp q with rfl | q
    · exact .inr h
    · exact .inl q
theorem same_upd2 {p : Addr} {o : HO} (h : Same F H) : Same (upd F p o) (upd H p o) := fun a u e => by
  by_cases q : a = p
  · subst q; rw [upd_same] at e ⊢; exact e
  · rw [upd_ne q] at e ⊢; exact h a u e
theorem same_new {p : Addr} {o : HO} (h : Same F H) (hp : H p = none) : Same F (upd H p o) := fun a u e => by
  rw [upd_ne (ne_of_none (h a u e) hp)]; exact h a u e
/-- freezing what is owned -/
theorem Stp.frz {fp gp : List Addr} (hf : ∀ a ∈ gp, F a = none) (hs : ∀ a ∈ gp, a ∈ fp) : Stp H F fp H (frzF F H gp) fp :=
  ⟨same_frzF hf, fun _ _ h _ => h, fun a o h => by
    by_cases q : a ∈ gp
    · exact .inr (.inr (hs a q))
    · rw [frzF_out q] at h; exact .inl (by rw [h]; simp), fun _ h => .inl h⟩
/-- an owned object is written -/
theorem Stp.wr {fp : List Addr} {p : Addr} {o : HO} (h : p ∈ fp) : Stp H F fp (upd H p o) F fp :=
  ⟨fun _ _ e => e, fun a u e n => by rw [upd_ne (fun z : a = p => n (by rw [z]; exact h))]; exact e, fun a u e => .inl (by rw [e]; simp), fun _ q => .inl q⟩
end
end Rx
end

section
/-! Rx, part 2: what an expression asks, by its evaluation (tD); operands. -/
namespace Rx
open PySem PySem.Spec PyProof.Rows L2
variable [Prw]

section
variable (K : PySem.W.Frag) (mg : Str → Option Value)
/-- the state: data below H, the slots, what they own -/
structure SS (H F : Hp) (σ : L2.St) (e : Ev) (fp : List Addr) : Prop where
  le : Same F H
  env : EvR K mg H F σ e fp
  own : ∀ a ∈ fp, F a = none
/-- behind an expression that yields t: v -/
structure VPost (H F : Hp) (fp : List Addr) (σ : L2.St) (e : Ev) (v : V) (t : OT) (H' F' : Hp) (fpe fpv : List Addr) : Prop where
  st : Stp H F fp H' F' (fpv ++ fpe)
  ss : SS K mg H' F' σ e fpe
  val : OTR K mg H' F' v t fpv
  dis : ∀ a ∈ fpv, a ∉ fpe
  own : ∀ a ∈ fpv, F' a = none
/-- behind several values -/
structure VsPost (H F : Hp) (fp : List Addr) (σ : L2.St) (e : Ev) (vs : List V) (ts : List OT) (H' F' : Hp) (fpe fpv : List Addr) : Prop where
  st : Stp H F fp H' F' (fpv ++ fpe)
  ss : SS K mg H' F' σ e fpe
  val : OTRs K mg H' F' vs ts fpv
  dis : ∀ a ∈ fpv, a ∉ fpe
  own : ∀ a ∈ fpv, F' a = none
def ExR (H F : Hp) (x : Exn) (cls : Value) (d : Option Addr) : Prop :=
  ∃ (C dd : Addr) (fs : List (Str × V)), mg x.cls = some (.ref C) ∧ cls = .ref C ∧ d = some dd ∧ H dd = some (.xd fs) ∧ DRf K mg F fs x.fs
/-- what is wanted of an exception -/
def Xc (W : WX) (σ : L2.St) (H F : Hp) (fp : List Addr) (x : Exn) (e : Ev) : Prop :=
  ∀ (cls : Value) (d : Option Addr) (H' F' : Hp) (fpe : List Addr), Stp H F fp H' F' fpe → SS K mg H' F' σ e fpe → ExR K mg H' F' x cls d → W cls d σ H'
def WP {α : Type} (W : WX) (σ : L2.St) (H F : Hp) (fp : List Addr) (r : R α) (k : α → Ev → Prop) : Prop :=
  match r with
  | .bad => False
  | .ok a e => k a e
  | .exn x e => Xc K mg W σ H F fp x e
def FinV (H F : Hp) (fp : List Addr) (σ : L2.St) (Q : VK) : OT → Ev → Prop := fun t e => ∀ v H' F' fpe fpv, VPost K mg H F fp σ e v t H' F' fpe fpv → Q v H'
def FinVs (H F : Hp) (fp : List Addr) (σ : L2.St) (Q : List V → Hp → Prop) : List OT → Ev → Prop := fun ts e => ∀ vs H' F' fpe fpv, VsPost K mg H F fp σ e vs ts H' F' fpe fpv → Q vs H'
def FinB (H F : Hp) (fp : List Addr) (σ : L2.St) (Q : Bool → Hp → Prop) : Bool → Ev → Prop := fun b e => ∀ H' F' fpe, Stp H F fp H' F' fpe → SS K mg H' F' σ e fpe → Q b H'
/-- what an expression asks, by its evaluation m -/
def tD (W : WX) (m : M OT) : TE := fun σ H Q => ∃ F e fp, SS K mg H F σ e fp ∧ WP K mg W σ H F fp (m e) (FinV K mg H F fp σ Q)
def tDs (W : WX) (m : M (List OT)) : TA := fun σ H Q => ∃ F e fp, SS K mg H F σ e fp ∧ WP K mg W σ H F fp (m e) (FinVs K mg H F fp σ Q)
def tDb (W : WX) (m : M Bool) : TT := fun σ H Q => ∃ F e fp, SS K mg H F σ e fp ∧ WP K mg W σ H F fp (m e) (FinB K mg H F fp σ Q)
end
/-- what may be looked at: data, or an owned thing within which nothing is owned -/
inductive PR (K : PySem.W.Frag) (mg : Str → Option Value) (H F : Hp) : V → D → Prop
  | fz {v : V} {d : D} : DR K mg F v d → PR K mg H F v d
  | lst {a : Addr} {vs : List V} {ds : List D} : H a = some (.lst vs) → vs.length ≤ sizeLine → DRs K mg F vs ds → PR K mg H F (.ref a) (.lst ds)
  | dK {a : Addr} {kvs : List (Key × V)} {ds : List (D × D)} : H a = some (.dK kvs) → DRk K mg F kvs ds → PR K mg H F (.ref a) (.dic ds)
  | dN {a : Addr} {xs : List (D × Addr × V)} {ds : List (D × D)} : H a = some (dNO a xs) → DRn K mg F xs ds → PR K mg H F (.ref a) (.din ds)
inductive PRs (K : PySem.W.Frag) (mg : Str → Option Value) (H F : Hp) : List V → List D → Prop
  | nil : PRs K mg H F [] []
  | cons {v : V} {d : D} {vs : List V} {ds : List D} : PR K mg H F v d → PRs K mg H F vs ds → PRs K mg H F (v :: vs) (d :: ds)

section
variable {K : PySem.W.Frag} {mg : Str → Option Value} {W : WX} {σ : L2.St} {H F H' F' H1 F1 : Hp} {fp fp1 fpe fpv : List Addr} {e : Ev}
theorem WP.bindR {α β : Type} {r : R α} {f : α → Ev → R β} {k : β → Ev → Prop} (h : WP K mg W σ H F fp (r.bind f) k) : WP K mg W σ H F fp r (fun a e => WP K mg W σ H F fp (f a e) k) := by
  cases r with
  | bad => exact h
  | ok a e => exact h
  | exn x e => exact h
theorem Xc.step {x : Exn} {e : Ev} {g : List Addr} (s : Stp H F fp H1 F1 (g ++ fp1)) (h : Xc K mg W σ H F fp x e) : Xc K mg W σ H1 F1 fp1 x e := fun cls d H' F' fpe st ss ex =>
  h cls d H' F' fpe ((s.trans st.frameL).sub fun a ha => List.mem_append_right _ ha) ss ex
theorem WP.step {α : Type} {r : R α} {k k' : α → Ev → Prop} {g : List Addr} (s : Stp H F fp H1 F1 (g ++ fp1)) (hk : ∀ a e, k a e → k' a e) (h : WP K mg W σ H F fp r k) : WP K mg W σ H1 F1 fp1 r k' := by
  cases r with
  | bad => exact h
  | ok a e => exact hk a e h
  | exn x e => exact Xc.step s h
theorem WP.mono {α : Type} {r : R α} {k k' : α → Ev → Prop} (hk : ∀ a e, k a e → k' a e) (h : WP K mg W σ H F fp r k) : WP K mg W σ H F fp r k' := by
  cases r with
  | bad => exact h
  | ok a e => exact hk a e h
  | exn x e => exact h
theorem FinV.step {Q : VK} {t : OT} {e : Ev} (s : Stp H F fp H1 F1 fp1) (h : FinV K mg H F fp σ Q t e) : FinV K mg H1 F1 fp1 σ Q t e := fun v H' F' fpe fpv p =>
  h v H' F' fpe fpv ⟨s.trans p.st, p.ss, p.val, p.dis, p.own⟩
theorem FinB.step {Q : Bool → Hp → Prop} {b : Bool} {e : Ev} (s : Stp H F fp H1 F1 fp1) (h : FinB K mg H F fp σ Q b e) : FinB K mg H1 F1 fp1 σ Q b e := fun H' F' fpe st ss =>
  h H' F' fpe (s.trans st) ss

/-! ### slots -/
theorem EvR.at : ∀ {σ : L2.St} {e : Ev} {fp : List Addr} {j : Nat} {t : OT}, EvR K mg H F σ e fp → e.at j = some t →
    ∃ v g, σ[j]? = some (some v) ∧ OTR K mg H F v t g ∧ (∀ a ∈ g, a ∈ fp)
  | _, _, _, _, _, .nil, h => by simp [Ev.at] at h
  | _, _, _, 0, _, .cons s r n, h => by
    have h : _ = some _ := h
    simp [Ev.at] at h
    subst h
    cases s with
    | so o => exact ⟨_, _, rfl, o, fun a ha => List.mem_append_left _ ha⟩
  | _, _, _, j + 1, _, .cons s r n, h => by
    obtain ⟨v, g, h1, h2, h3⟩ := EvR.at (j := j) r (by simpa [Ev.at] using h)
    exact ⟨v, g, by simpa using h1, h2, fun a ha => List.mem_append_right _ (h3 a ha)⟩
theorem EvR.length : ∀ {σ : L2.St} {e : Ev} {fp : List Addr}, EvR K mg H F σ e fp → σ.length = e.length
  | _, _, _, .nil => rfl
  | _, _, _, .cons _ r _ => by simp [EvR.length r]
/-- a slot is taken out: what it owned, and the rest -/
theorem EvR.take : ∀ {σ : L2.St} {e : Ev} {fp : List Addr} {j : Nat} {t : OT}, EvR K mg H F σ e fp → e.at j = some t →
    ∃ v g rest, σ[j]? = some (some v) ∧ OTR K mg H F v t g ∧ EvR K mg H F σ (e.set j none) rest ∧ (∀ a, a ∈ fp ↔ a ∈ g ∨ a ∈ rest) ∧ (∀ a ∈ g, a ∉ rest)
  | _, _, _, _, _, .nil, h => by simp [Ev.at] at h
  | _, _, _, 0, _, .cons (fp := g) (fps := fps) s r n, h => by
    simp [Ev.at] at h
    subst h
    cases s with
    | so o => exact ⟨_, _, [] ++ fps, rfl, o, .cons .no r (fun a ha => nomatch ha), fun a => by simp, fun a ha => by simpa using n a ha⟩
  | _, _, _, j + 1, _, .cons (fp := g0) s r n, h => by
    obtain ⟨v, g, rest, h1, h2, h3, h4, h5⟩ := EvR.take (j := j) r (by simpa [Ev.at] using h)
    refine ⟨v, g, g0 ++ rest, by simpa using h1, h2, .cons s h3 (fun a ha q => n a ha ((h4 a).mpr (.inr q))), fun a => ?_, fun a ha q => ?_⟩
    · rw [List.mem_append, List.mem_append, h4]
      constructor
      · rintro (q | q | q)
        · exact .inr (.inl q)
        · exact .inl q
        · exact .inr (.inr q)
      · rintro (q | q | q)
        · exact .inr (.inl q)
        · exact .inl q
        · exact .inr (.inr q)
    · rcases List.mem_append.mp q with q | q
      · exact n a q ((h4 a).mpr (.inl ha))
      · exact h5 a ha q
/-- a slot is set: what it held is let go -/
theorem EvR.set : ∀ {σ : L2.St} {e : Ev} {fp : List Addr} (j : Nat) {v : V} {t : OT} {g : List Addr}, EvR K mg H F σ e fp → OTR K mg H F v t g → (∀ a ∈ g, a ∉ fp) →
    ∃ fp', EvR K mg H F (σ.set j (some v)) (e.set j (some t)) fp' ∧ (∀ a ∈ fp', a ∈ g ∨ a ∈ fp)
  | _, _, _, _, _, _, _, .nil, _, _ => ⟨[], .nil, fun _ h => nomatch h⟩
  | _, _, _, 0, _, _, g, .cons (fp := g0) (fps := fps) s r n, o, d => ⟨g ++ fps, .cons (.so o) r (fun a ha q => d a ha (List.mem_append_right _ q)), fun a ha => (List.mem_append.mp ha).imp id fun q => List.mem_append_right _ q⟩
  | _, _, _, j + 1, _, _, g, .cons (fp := g0) (fps := fps) s r n, o, d => by
    by_cases hj : True
    · obtain ⟨fp', h1, h2⟩ := EvR.set j r o (fun a ha q => d a ha (List.mem_append_right _ q))
      refine ⟨g0 ++ fp', .cons s h1 (fun a ha q => ?_), fun a ha => ?_⟩
      · rcases h2 a q with q | q
        · exact d a q (List.mem_append_left _ ha)
        · exact n a ha q
      · rcases List.mem_append.mp ha with q | q
        · exact .inr (List.mem_append_left _ q)
        · exact (h2 a q).imp id fun z => List.mem_append_right _ z
    · exact absurd trivial hj
/-- a slot is put back at the value that it has -/
theorem EvR.put : ∀ {σ : L2.St} {e : Ev} {fp : List Addr} {j : Nat} {v : V} {t : OT} {g : List Addr}, EvR K mg H F σ e fp → σ[j]? = some (some v) → OTR K mg H F v t g → (∀ a ∈ g, a ∉ fp) →
    ∃ fp', EvR K mg H F σ (e.set j (some t)) fp' ∧ (∀ a ∈ fp', a ∈ g ∨ a ∈ fp) := fun {σ e fp j v t g} r h o d => by
  obtain ⟨fp', h1, h2⟩ := EvR.set j r o d
  have e1 : σ.set j (some v) = σ := by
    apply List.ext_getElem?
    intro i
    by_cases q : j = i
    · subst q
      have hl : j < σ.length := (List.getElem?_eq_some_iff.mp h).1
      rw [List.getElem?_set_self hl, h]
    · rw [List.getElem?_set_ne q]
  rw [e1] at h1
  exact ⟨fp', h1, h2⟩
/-- a slot is forgotten -/
theorem EvR.drop : ∀ {σ : L2.St} {e : Ev} {fp : List Addr} (j : Nat) (s : Option V), EvR K mg H F σ e fp → ∃ fp', EvR K mg H F (σ.set j s) (e.set j none) fp' ∧ (∀ a ∈ fp', a ∈ fp)
  | _, _, _, _, _, .nil => ⟨[], .nil, fun _ h => nomatch h⟩
  | _, _, _, 0, _, .cons (fp := g0) (fps := fps) s r n => ⟨[] ++ fps, .cons .no r (fun a ha => nomatch ha), fun a ha => List.mem_append_right _ (by simpa using ha)⟩
  | _, _, _, j + 1, s', .cons (fp := g0) (fps := fps) s r n => by
    obtain ⟨fp', h1, h2⟩ := EvR.drop j s' r
    exact ⟨g0 ++ fp', .cons s h1 (fun a ha q => n a ha (h2 a q)), fun a ha => (List.mem_append.mp ha).elim (fun q => List.mem_append_left _ q) fun q => List.mem_append_right _ (h2 a q)⟩
theorem EvR.forget {σ : L2.St} {e : Ev} {fp : List Addr} (j : Nat) (r : EvR K mg H F σ e fp) : ∃ fp', EvR K mg H F σ (e.set j none) fp' ∧ (∀ a ∈ fp', a ∈ fp) := by
  cases h : σ[j]? with
  | none =>
    have hl : σ.length ≤ j := List.getElem?_eq_none_iff.mp h
    rw [List.set_eq_of_length_le (by rw [← r.length]; exact hl)]
    exact ⟨fp, r, fun _ q => q⟩
  | some s =>
    obtain ⟨fp', h1, h2⟩ := EvR.drop j s r
    have hl : j < σ.length := (List.getElem?_eq_some_iff.mp h).1
    have e1 : σ.set j s = σ := by
      apply List.ext_getElem?
      intro i
      by_cases q : j = i
      · subst q; rw [List.getElem?_set_self hl, h]
      · rw [List.getElem?_set_ne q]
    rw [e1] at h1
    exact ⟨fp', h1, h2⟩

/-! ### peeks -/
theorem DRs.map_fz : ∀ {vs : List V} {ts : List OT} {fp : List Addr} {ds : List D}, OTRs K mg H F vs ts fp → allFz ts = some ds → DRs K mg F vs ds
  | _, _, _, _, .nil, h => by cases h; exact .nil
  | _, _, _, _, .cons (t := t) o r n, h => by
    cases o with
    | fz d =>
      simp only [allFz, Option.map_eq_some_iff] at h
      obtain ⟨ds', h1, rfl⟩ := h
      exact .cons d (DRs.map_fz r h1)
    | lst => simp [allFz] at h
    | dK => simp [allFz] at h
    | dN => simp [allFz] at h
    | ins => simp [allFz] at h
theorem PR.of {v : V} {t : OT} {d : D} (o : OTR K mg H F v t fp) (h : t.flat = some d) : PR K mg H F v d := by
  cases o with
  | fz x => cases h; exact .fz x
  | lst h1 hz r n =>
    simp only [OT.flat, Option.map_eq_some_iff] at h
    obtain ⟨ds, h2, rfl⟩ := h
    exact .lst h1 hz (DRs.map_fz r h2)
  | dK h1 r => cases h; exact .dK h1 r
  | dN h1 r => cases h; exact .dN h1 r
  | ins h1 m r n => cases h
theorem PR.all {v : V} {d : D} (le : Same F H) (p : PR K mg H F v d) : DR K mg H v d := by
  cases p with
  | fz x => exact x.mono le
  | lst h hz r => exact .lst h hz (r.mono le)
  | dK h r => exact .dK (.inl h) (r.mono le)
  | dN h r => exact .dN (.inl h) (r.mono le)
end
end Rx
end

section
/-! Rx, part N: dicts whose keys are tuples. -/
namespace Rx
open PySem PySem.Spec PyProof.Rows L2
variable [Prw]
theorem strOf_inj {a b : List Nat} (h : strOf a = strOf b) : a = b := by
  have h : (⟨a.toArray⟩ : Str) = ⟨b.toArray⟩ := h
  have : a.toArray = b.toArray := Str.mk.inj h
  simpa using this
mutual
theorem nk_inj : ∀ (n m : Nat) (a b : D), D.isk n a = true → D.isk m b = true → nkOf a = nkOf b → a = b
  | _, _, .non, b, _, h, e => by cases b <;> first | rfl | (cases e; done) | (rename_i m _; cases m <;> cases h)
  | _, _, .int i, b, _, h, e => by cases b <;> first | (cases e; rfl) | (cases e; done) | (rename_i m _; cases m <;> cases h)
  | _, _, .str s, b, _, h, e => by
    cases b with
    | str t => rw [strOf_inj (NestedKey.text.inj e)]
    | non => cases e
    | int => cases e
    | tup => cases e
    | _ => rename_i m _; cases m <;> cases h
  | n + 1, m, .tup xs, b, h1, h, e => by
    cases b with
    | tup ys =>
      cases m with
      | zero => cases h
      | succ m => rw [nks_inj n m xs ys h1 h (NestedKey.tup.inj e)]
    | non => cases e
    | int => cases e
    | str => cases e
    | _ => rename_i m _; cases m <;> cases h
  | 0, _, .tup _, _, h, _, _ => by cases h
  | n, _, .bl _, _, h, _, _ => by cases n <;> cases h
  | n, _, .lst _, _, h, _, _ => by cases n <;> cases h
  | n, _, .lk _, _, h, _, _ => by cases n <;> cases h
  | n, _, .adr _, _, h, _, _ => by cases n <;> cases h
  | n, _, .ali _ _, _, h, _, _ => by cases n <;> cases h
  | n, _, .tpn _, _, h, _, _ => by cases n <;> cases h
  | n, _, .dic _, _, h, _, _ => by cases n <;> cases h
  | n, _, .din _, _, h, _, _ => by cases n <;> cases h
  | n, _, .ins _ _, _, h, _, _ => by cases n <;> cases h
  | n, _, .fn _, _, h, _, _ => by cases n <;> cases h
theorem nks_inj : ∀ (n m : Nat) (a b : List D), D.isks n a = true → D.isks m b = true → nksOf a = nksOf b → a = b
  | _, _, [], [], _, _, _ => rfl
  | _, _, [], _ :: _, _, _, e => by cases e
  | _, _, _ :: _, [], _, _, e => by cases e
  | n, m, x :: xs, y :: ys, h1, h2, e => by
    have h1 : (D.isk n x && D.isks n xs) = true := h1
    have h2 : (D.isk m y && D.isks m ys) = true := h2
    rw [Bool.and_eq_true] at h1 h2
    have e : nkOf x :: nksOf xs = nkOf y :: nksOf ys := e
    rw [nk_inj n m x y h1.1 h2.1 (List.cons.inj e).1, nks_inj n m xs ys h1.2 h2.2 (List.cons.inj e).2]
end
theorem isKeyN_tup {d : D} (h : isKeyN d = true) : D.isk 8 d = true := by
  cases d <;> first | exact h | cases h
section
variable {X : Cx} {pins : List (Addr × Obj)} {σ : L2.St} {H F : Hp} {s : Shared}
mutual
theorem key_is (I : Inv X pins σ H s) (le : Same F H) : ∀ (n : Nat) (d : D) {v : V} {u : Value}, D.isk n d = true → DR X.K X.mg F v d → RelV v u → NestedIs s.heap (nkOf d) u ∧ (nkOf d).depth ≤ n
  | n, .non, v, u, _, r, ru => by cases r; cases ru; exact ⟨.none, Nat.zero_le _⟩
  | n, .int i, v, u, _, r, ru => by cases r; obtain ⟨t, rfl⟩ := ru; exact ⟨.int _ _, Nat.zero_le _⟩
  | n, .str z, v, u, _, r, ru => by
    cases r with
    | str _ _ => obtain ⟨t, rfl⟩ := ru; exact ⟨.text _ _, Nat.zero_le _⟩
  | 0, .tup _, _, _, h, _, _ => by cases h
  | n + 1, .tup xs, v, u, h, r, ru => by
    cases r with
    | tup hs hz rs =>
      cases ru
      obtain ⟨its, rv, pl, _⟩ := I.tuple (Same.seqT le hs)
      obtain ⟨o, ho, hc, m, hd⟩ := pl
      obtain ⟨q1, q2⟩ := keys_are I le n xs h rs rv
      refine ⟨.tup ho hc hd (by simpa using q1), ?_⟩
      show NestedKey.depthAll (nksOf xs) + 1 ≤ n + 1
      omega
  | n, .bl _, _, _, h, _, _ => by cases n <;> cases h
  | n, .lst _, _, _, h, _, _ => by cases n <;> cases h
  | n, .lk _, _, _, h, _, _ => by cases n <;> cases h
  | n, .adr _, _, _, h, _, _ => by cases n <;> cases h
  | n, .ali _ _, _, _, h, _, _ => by cases n <;> cases h
  | n, .tpn _, _, _, h, _, _ => by cases n <;> cases h
  | n, .dic _, _, _, h, _, _ => by cases n <;> cases h
  | n, .din _, _, _, h, _, _ => by cases n <;> cases h
  | n, .ins _ _, _, _, h, _, _ => by cases n <;> cases h
  | n, .fn _, _, _, h, _, _ => by cases n <;> cases h
theorem keys_are (I : Inv X pins σ H s) (le : Same F H) : ∀ (n : Nat) (ds : List D) {vs : List V} {us : List Value}, D.isks n ds = true → DRs X.K X.mg F vs ds → Vals vs us → NestedAll s.heap (nksOf ds) us ∧ NestedKey.depthAll (nksOf ds) ≤ n
  | n, [], _, _, _, r, ru => by cases r; cases ru; exact ⟨.nil, Nat.zero_le _⟩
  | n, d :: ds, _, _, h, r, ru => by
    have h : (D.isk n d && D.isks n ds) = true := h
    rw [Bool.and_eq_true] at h
    cases r with
    | cons r rs =>
      cases ru with
      | cons u us =>
        obtain ⟨a1, a2⟩ := key_is I le n d h.1 r u
        obtain ⟨b1, b2⟩ := keys_are I le n ds h.2 rs us
        refine ⟨.cons a1 b1, ?_⟩
        show max (nkOf d).depth (NestedKey.depthAll (nksOf ds)) ≤ n
        omega
end
end
section
variable {K : PySem.W.Frag} {mg : Str → Option Value} {F : Hp}
theorem DRn.length : ∀ {xs : List (D × Addr × V)} {ds : List (D × D)}, DRn K mg F xs ds → xs.length = ds.length
  | _, _, .nil => rfl
  | _, _, .cons _ _ _ r => by simp [DRn.length r]
theorem DRn.mem : ∀ {xs : List (D × Addr × V)} {ds : List (D × D)}, DRn K mg F xs ds → ∀ x ∈ xs, isKeyN x.1 = true ∧ DR K mg F (.ref x.2.1) x.1
  | _, _, .nil, _, h => nomatch h
  | _, _, .cons k q _ r, x, h => by
    rcases List.mem_cons.mp h with rfl | h
    · exact ⟨k, q⟩
    · exact DRn.mem r x h
abbrev YK := List (NestedKey × Addr × Value)
abbrev PNK : List (D × Addr × V) → YK → Prop := Paired (fun (p : D × Addr × V) (q : NestedKey × Addr × Value) => q.1 = nkOf p.1 ∧ q.2.1 = p.2.1 ∧ RelV p.2.2 q.2.2)
theorem pn_keys : ∀ {xs : List (D × Addr × V)} {ys : YK}, PNK xs ys → ys.map (·.1) = xs.map fun x => nkOf x.1
  | _, _, .nil => rfl
  | _, _, .cons h t => by rw [List.map_cons, List.map_cons, pn_keys t, h.1]
theorem pn_mem : ∀ {xs : List (D × Addr × V)} {ys : YK}, PNK xs ys → ∀ y ∈ ys, ∃ x ∈ xs, y.1 = nkOf x.1 ∧ y.2.1 = x.2.1
  | _, _, .nil, _, h => nomatch h
  | _, _, .cons h t, y, m => by
    rcases List.mem_cons.mp m with e | m
    · subst e; exact ⟨_, List.mem_cons_self, h.1, h.2.1⟩
    · obtain ⟨x, q1, q2⟩ := pn_mem t y m
      exact ⟨x, List.mem_cons_of_mem _ q1, q2⟩
/-- a look-up on both sides -/
theorem pn_look {d : D} (hd : isKeyN d = true) {xs : List (D × Addr × V)} {ys : YK} {ds : List (D × D)} (p : PNK xs ys) (r : DRn K mg F xs ds) :
    (lookD ds d = none ∧ atKey ys (nkOf d) = none) ∨ ∃ d' v' q u', lookD ds d = some d' ∧ atKey ys (nkOf d) = some (q, u') ∧ RelV v' u' ∧ DR K mg F v' d' := by
  induction p generalizing ds with
  | nil => cases r; exact .inl ⟨rfl, rfl⟩
  | @cons x y xs ys h t ih =>
    cases r with
    | @cons k e _ v _ _ hk _ rv rs =>
    by_cases z : k = d
    · subst z
      refine .inr ⟨e, v, y.2.1, y.2.2, by simp [lookD], ?_, h.2.2, rv⟩
      simp [atKey, h.1]
    · have z2 : ¬ y.1 = nkOf d := fun q => z (nk_inj 8 8 _ _ (isKeyN_tup hk) (isKeyN_tup hd) (h.1.symm.trans q))
      rcases ih rs with ⟨a, b⟩ | ⟨d', v', q, u', a, b, c, e2⟩
      · exact .inl ⟨by simp [lookD, z, a], by simpa [atKey, z2] using b⟩
      · exact .inr ⟨d', v', q, u', by simp [lookD, z, a], by simpa [atKey, z2] using b, c, e2⟩
/-- the entries behind a store -/
noncomputable def putN (xs : List (D × Addr × V)) (d : D) (q : Addr) (v : V) : List (D × Addr × V) := match xs.any fun x => decide (x.1 = d) with
  | true => xs.map fun x => if x.1 = d then (x.1, x.2.1, v) else x
  | false => xs ++ [(d, q, v)]
theorem putN_length (xs : List (D × Addr × V)) (d : D) (q : Addr) (v : V) : (putN xs d q v).length ≤ xs.length + 1 := by
  unfold putN; split <;> simp
theorem atKey_has {d : D} (hd : isKeyN d = true) {xs : List (D × Addr × V)} {ys : YK} (hk : ∀ x ∈ xs, isKeyN x.1 = true) (p : PNK xs ys) : (atKey ys (nkOf d)).isSome = xs.any fun x => decide (x.1 = d) := by
  induction p with
  | nil => rfl
  | @cons x y xs ys h t ih =>
    have ih := ih (fun z hz => hk z (List.mem_cons_of_mem _ hz))
    by_cases z : x.1 = d
    · have z2 : y.1 = nkOf d := by rw [h.1, z]
      rw [List.any_cons, decide_eq_true z]
      simp [atKey, z2]
    · have z2 : ¬ y.1 = nkOf d := fun q => z (nk_inj 8 8 _ _ (isKeyN_tup (hk x List.mem_cons_self)) (isKeyN_tup hd) (h.1.symm.trans q))
      rw [List.any_cons, decide_eq_false z, Bool.false_or, ← ih]
      simp [atKey, z2]
theorem pn_put {d : D} (hd : isKeyN d = true) {q : Addr} {v : V} {u : Value} (rv : RelV v u) {xs : List (D × Addr × V)} {ys : YK} (hk : ∀ x ∈ xs, isKeyN x.1 = true) (h : PNK xs ys) : PNK (putN xs d q v) (storedH ys (nkOf d) q u) := by
  have e := atKey_has hd hk h
  unfold putN storedH
  rw [e]
  cases hb : xs.any fun x => decide (x.1 = d) with
  | false =>
    simp only [Bool.false_eq_true, if_false]
    exact Paired.snoc h ⟨rfl, rfl, rv⟩
  | true =>
    simp only [if_true]
    clear e hb
    induction h with
    | nil => exact .nil
    | @cons x y xs ys h t ih =>
      have ih := ih fun z hz => hk z (List.mem_cons_of_mem _ hz)
      rw [List.map_cons, List.map_cons]
      by_cases z : x.1 = d
      · have z2 : y.1 = nkOf d := by rw [h.1, z]
        refine .cons ?_ ih
        rw [if_pos z]
        unfold putAt
        rw [if_pos z2]
        exact ⟨h.1, h.2.1, rv⟩
      · have z2 : ¬ y.1 = nkOf d := fun q => z (nk_inj 8 8 _ _ (isKeyN_tup (hk x List.mem_cons_self)) (isKeyN_tup hd) (h.1.symm.trans q))
        refine .cons ?_ ih
        rw [if_neg z]
        unfold putAt
        rw [if_neg z2]
        exact h
theorem DRn.has {d : D} : ∀ {xs : List (D × Addr × V)} {ds : List (D × D)}, DRn K mg F xs ds → (xs.any fun x => decide (x.1 = d)) = hasD ds d
  | _, _, .nil => rfl
  | _, _, .cons _ _ _ r => by
    have ih := DRn.has (d := d) r
    unfold hasD at ih ⊢
    rw [List.any_cons, List.any_cons, ih]
theorem DRn.snoc {d e : D} {q : Addr} {v : V} (hd : isKeyN d = true) (rq : DR K mg F (.ref q) d) (rv : DR K mg F v e) : ∀ {xs : List (D × Addr × V)} {ds : List (D × D)}, DRn K mg F xs ds → DRn K mg F (xs ++ [(d, q, v)]) (ds ++ [(d, e)])
  | _, _, .nil => .cons hd rq rv .nil
  | _, _, .cons a b c r => .cons a b c (DRn.snoc hd rq rv r)
theorem DRn.repl {d e : D} {v : V} (rv : DR K mg F v e) : ∀ {xs : List (D × Addr × V)} {ds : List (D × D)}, DRn K mg F xs ds → DRn K mg F (xs.map fun x => if x.1 = d then (x.1, x.2.1, v) else x) (ds.map fun p => if p.1 = d then (d, e) else p)
  | _, _, .nil => .nil
  | _, _, .cons (k := k) a b c r => by
    rw [List.map_cons, List.map_cons]
    by_cases z : k = d
    · subst z
      rw [if_pos rfl, if_pos rfl]
      exact .cons a b rv (DRn.repl rv r)
    · rw [if_neg z, if_neg z]
      exact .cons a b c (DRn.repl rv r)
theorem DRn.put {d e : D} {q : Addr} {v : V} (hd : isKeyN d = true) (rq : DR K mg F (.ref q) d) (rv : DR K mg F v e) {xs : List (D × Addr × V)} {ds : List (D × D)} (h : DRn K mg F xs ds) : DRn K mg F (putN xs d q v) (putD ds d e) := by
  have eb := h.has (d := d)
  unfold putN putD
  rw [eb]
  cases hb : hasD ds d with
  | false => exact DRn.snoc hd rq rv h
  | true =>
    simp only
    exact DRn.repl rv h
end
section
variable {X : Cx} {pins : List (Addr × Obj)} {σ : L2.St} {H F : Hp} {s : Shared} {a : Addr} {xs : List (D × Addr × V)} {ds : List (D × D)} {A : Around} {E : Value → Shared → Prop} {d : D} {v : V} {u : Value}
/-- the dict as the kit has it -/
theorem dn_at (hP : Prw.P = X.prog) (hw : Prw.w = X.w) (I : Inv X pins σ H s) (le : Same F H) (h : Rd H a (dNO a xs)) (r : DRn X.K X.mg F xs ds) :
    xs.length ≤ sizeLine ∧ (a == sysModules) = false ∧ (xs.map fun x => nkOf x.1).Nodup ∧ ∃ ys : YK, PNK xs ys ∧ s.heap.DictOfH (nestedKind X.prog X.w) a ys := by
  have h : DNo a xs s.heap := (show ObjOk X.prog X.w H s.heap a (.ext (DNo a xs)) from h.ok I.hok).1
  obtain ⟨h1, h2, hn, ys, h3, o, es, ep, h5, h6, h7, h8⟩ := h
  rw [hP, hw] at h8
  refine ⟨h1, h2, hn, ys, h3, o, es, ep, h5, h6, h7, h8, fun y hy => ?_, by rw [pn_keys h3]; exact hn⟩
  obtain ⟨x, hx, e1, e2⟩ := pn_mem h3 y hy
  obtain ⟨k1, k2⟩ := r.mem x hx
  obtain ⟨q1, q2⟩ := key_is I le 8 x.1 (isKeyN_tup k1) k2 (u := .ref x.2.1) rfl
  rw [e1, e2]
  exact ⟨q1, q2⟩
theorem key_N (I : Inv X pins σ H s) (le : Same F H) (hd : isKeyN d = true) (r : DR X.K X.mg F v d) (ru : RelV v u) : ∃ q, v = .ref q ∧ u = .ref q ∧ (nestedKind X.prog X.w).is s.heap (nkOf d) q := by
  have hk := isKeyN_tup hd
  cases d with
  | tup zs =>
    obtain ⟨q1, q2⟩ := key_is I le 8 _ hk r ru
    cases r with
    | tup _ _ _ =>
      cases ru
      exact ⟨_, rfl, rfl, q1, q2⟩
  | _ => cases hd
theorem room8 {A : Around} (hu : A.units + 64 < cLine) : (nestedKind X.prog X.w).room A := by
  show A.units + 8 < cLine
  omega
theorem room9 {A : Around} (hu : A.units + 64 < cLine) : (nestedKind X.prog X.w).room A.in1 := by
  show A.units + 1 + 8 < cLine
  omega
/-- y in d -/
theorem n_in {Q : Value → Shared → Prop} (hP : Prw.P = X.prog) (hw : Prw.w = X.w) (hu : A.units + 64 < cLine) (I : Inv X pins σ H s) (le : Same F H) (h : Rd H a (dNO a xs)) (r : DRn X.K X.mg F xs ds) (hd : isKeyN d = true) (rd : DR X.K X.mg F v d) (ru : RelV v u)
    (q : ∀ s', Inv X pins σ H s' → Q (.bool (hasD ds d)) s') : wpAny (model X.prog X.w) A (compareOp .In u (.ref a)) Q E s := by
  obtain ⟨z, hsm, _, ys, pn, dd⟩ := dn_at hP hw I le h r
  obtain ⟨qa, rfl, rfl, hk⟩ := key_N I le hd rd ru
  refine wpAny_in_heap (room9 hu) hk hsm dd ?_
  have e := (atKey_has hd (fun x hx => (r.mem x hx).1) pn).trans r.has
  rw [e]
  exact q _ (I.tok _)
theorem n_nin {Q : Value → Shared → Prop} (hP : Prw.P = X.prog) (hw : Prw.w = X.w) (hu : A.units + 64 < cLine) (I : Inv X pins σ H s) (le : Same F H) (h : Rd H a (dNO a xs)) (r : DRn X.K X.mg F xs ds) (hd : isKeyN d = true) (rd : DR X.K X.mg F v d) (ru : RelV v u)
    (q : ∀ s', Inv X pins σ H s' → Q (.bool (!hasD ds d)) s') : wpAny (model X.prog X.w) A (compareOp .NotIn u (.ref a)) Q E s := by
  obtain ⟨z, hsm, _, ys, pn, dd⟩ := dn_at hP hw I le h r
  obtain ⟨qa, rfl, rfl, hk⟩ := key_N I le hd rd ru
  refine wpAny_notIn_heap (room9 hu) hk hsm dd ?_
  have e := (atKey_has hd (fun x hx => (r.mem x hx).1) pn).trans r.has
  rw [e]
  exact q _ (I.tok _)
/-- d[y] -/
theorem n_get {Q : Value → Shared → Prop} {d' : D} (hP : Prw.P = X.prog) (hw : Prw.w = X.w) (hu : A.units + 64 < cLine) (I : Inv X pins σ H s) (le : Same F H) (h : Rd H a (dNO a xs)) (r : DRn X.K X.mg F xs ds) (hd : isKeyN d = true) (rd : DR X.K X.mg H v d) (ru : RelV v u) (hl : lookD ds d = some d')
    (q : ∀ w' u' s', Inv X pins σ H s' → DR X.K X.mg F w' d' → RelV w' u' → Q u' s') : wpAny (model X.prog X.w) A (getItem (.ref a) u) Q E s := by
  obtain ⟨z, hsm, _, ys, pn, dd⟩ := dn_at hP hw I le h r
  obtain ⟨qa, rfl, rfl, hk⟩ := key_N I (Same.refl _) hd rd ru
  rcases pn_look hd pn r with ⟨e, _⟩ | ⟨d2, v2, qq, u2, e1, e2, e3, e4⟩
  · rw [hl] at e; cases e
  · rw [hl] at e1; cases e1
    exact wpAny_getItem_heap (room9 hu) hk dd e2 (q _ _ _ (I.tok _) e4 e3)
/-- the dict's object was written -/
theorem n_written {w' : V} {u' : Value} {b : Addr} {h' : Heap} {t' : Nat} {ys : YK} (hP : Prw.P = X.prog) (hw : Prw.w = X.w) (I : Inv X pins σ H s) (h : H a = some (dNO a xs)) (r : DRn X.K X.mg F xs ds) (hd : isKeyN d = true) (rw' : RelV w' u') (hl : xs.length < sizeLine) (sm : (a == sysModules) = false)
    (pn : PNK xs ys) (dd : h'.DictOfH (nestedKind X.prog X.w) a (storedH ys (nkOf d) b u')) (sb : Heap.SameBut a s.heap h') : Inv X pins σ (upd H a (dNO a (putN xs d b w'))) { s with heap := h', toks := t' } := by
  have pn2 := pn_put (q := b) hd rw' (fun x hx => (r.mem x hx).1) pn
  have few : (putN xs d b w').length ≤ sizeLine := by have := putN_length xs d b w'; omega
  obtain ⟨o, es, ep, o1, o2, o3, o4, _, nod⟩ := dd
  rw [← hP, ← hw] at o4
  rw [pn_keys pn2] at nod
  refine d_write I (by rw [h]; exact True.intro) sb ⟨o, o1⟩ ⟨⟨few, sm, nod, _, pn2, o, es, ep, o1, o2, o3, o4⟩, ⟨o, o1⟩, fun h1 h2 z keep => ?_⟩
  obtain ⟨_, _, _, zs, zn, u, fs, fp, u1, u2⟩ := z
  exact ⟨few, sm, nod, zs, zn, u, fs, fp, keep u u1, u2⟩
/-- d[y] = v -/
theorem n_set {Q : Unit → Shared → Prop} {w' : V} {u' : Value} (hP : Prw.P = X.prog) (hw : Prw.w = X.w) (hu : A.units + 64 < cLine) (I : Inv X pins σ H s) (le : Same F H) (h : H a = some (dNO a xs)) (r : DRn X.K X.mg F xs ds) (hd : isKeyN d = true) (rd : DR X.K X.mg F v d) (ru : RelV v u) (rw' : RelV w' u') (hl : xs.length < sizeLine)
    (q : ∀ b s', v = .ref b → Inv X pins σ (upd H a (dNO a (putN xs d b w'))) s' → Q () s') : wpAny (model X.prog X.w) A (setItem (.ref a) u u') Q E s := by
  obtain ⟨z, hsm, hn, ys, pn, dd⟩ := dn_at hP hw I le (.inl h) r
  obtain ⟨qa, rfl, rfl, hk⟩ := key_N I le hd rd ru
  exact wpAny_setItem_heap (hsz := by rw [← Paired.length pn]; exact z) (room9 hu) hk dd fun h' dd' hs => q qa _ rfl (n_written hP hw I h r hd rw' hl hsm pn dd' hs)
/-- .. by a comprehension -/
theorem n_dictSet {Q : Unit → Shared → Prop} {w' : V} {u' : Value} (hP : Prw.P = X.prog) (hw : Prw.w = X.w) (hu : A.units + 64 < cLine) (I : Inv X pins σ H s) (le : Same F H) (h : H a = some (dNO a xs)) (r : DRn X.K X.mg F xs ds) (hd : isKeyN d = true) (rd : DR X.K X.mg F v d) (ru : RelV v u) (rw' : RelV w' u') (hl : xs.length < sizeLine)
    (q : ∀ b s', v = .ref b → Inv X pins σ (upd H a (dNO a (putN xs d b w'))) s' → Q () s') : wpAny (model X.prog X.w) A (dictSet a u u') Q E s := by
  obtain ⟨z, hsm, hn, ys, pn, dd⟩ := dn_at hP hw I le (.inl h) r
  obtain ⟨qa, rfl, rfl, hk⟩ := key_N I le hd rd ru
  exact wpAny_dictSet_heap (hsz := by rw [← Paired.length pn]; exact z) (room8 hu) hk dd fun h' dd' hs => q qa _ rfl (n_written hP hw I h r hd rw' hl hsm pn dd' hs)
/-- len(d) -/
theorem n_len {Q : Value → Shared → Prop} (hP : Prw.P = X.prog) (hw : Prw.w = X.w) (I : Inv X pins σ H s) (le : Same F H) (h : Rd H a (dNO a xs)) (r : DRn X.K X.mg F xs ds) (q : ∀ t s', Inv X pins σ H s' → Q (.int ds.length t) s') : wpAny (model X.prog X.w) A (call (.builtin "len") [.ref a]) Q E s := by
  obtain ⟨z, hsm, _, ys, pn, dd⟩ := dn_at hP hw I le h r
  have e : ys.length = ds.length := by rw [← Paired.length pn, r.length]
  refine call_len_dictH hsm dd (by have := sizeLine_eq; have := Paired.length pn; omega) ?_
  rw [e]
  exact q _ _ ((I.tok _).tok _)
end
end Rx
end

section
/-! Rx, part 3: expressions. -/
namespace Rx
open PySem PySem.Spec PyProof.Rows L2
variable [Prw]

theorem PE.imp {X : Cx} {e : Expr} {t t' : TE} (h : PE X e t) (f : ∀ σ H Q, t' σ H Q → t σ H Q) : PE X e t' := ⟨fun pins s σ H Q I q => h.run pins s σ H Q I (f σ H Q q)⟩
theorem PT.imp {X : Cx} {e : Expr} {t t' : TT} (h : PT X e t) (f : ∀ σ H Q, t' σ H Q → t σ H Q) : PT X e t' := ⟨fun pins s σ H Q I q => h.run pins s σ H Q I (f σ H Q q)⟩
theorem PA.imp {X : Cx} {e : List Expr} {t t' : TA} (h : PA X e t) (f : ∀ σ H Q, t' σ H Q → t σ H Q) : PA X e t' := ⟨fun pos pins s σ H Q I q => h.run pos pins s σ H Q I (f σ H Q q)⟩
theorem PW.imp {X : Cx} {e : Expr} {t t' : TT} (h : PW X e t) (f : ∀ σ H Q, t' σ H Q → t σ H Q) : PW X e t' := ⟨fun wh pins s σ H Q I q => h.run wh pins s σ H Q I (f σ H Q q)⟩

/-- what an operand asks -/
def tO (K : PySem.W.Frag) (mg : Str → Option Value) (W : WX) (x : IE) (m : M OT) : TE := match x.isVar with
  | some j => tVar j
  | none => tD K mg W m
/-- an operand that has been evaluated -/
def OpH (K : PySem.W.Frag) (mg : Str → Option Value) (F : Hp) (σ : L2.St) (x : IE) (r : Option D) (v : V) : Prop := match x.isVar with
  | some j => σ[j]? = some (some v)
  | none => ∃ d, r = some d ∧ DR K mg F v d

section
variable {K : PySem.W.Frag} {mg : Str → Option Value} {W : WX} {σ : L2.St} {H F H' F' H1 F1 H0 F0 : Hp} {fp fp1 fp0 fpe fpv : List Addr} {e : Ev}
theorem OpH.mono {x : IE} {r : Option D} {v : V} (s : Same F F') (h : OpH K mg F σ x r v) : OpH K mg F' σ x r v := by
  unfold OpH at h ⊢
  cases hx : x.isVar with
  | some j => rw [hx] at h; exact h
  | none =>
    rw [hx] at h
    obtain ⟨d, h1, h2⟩ := h
    exact ⟨d, h1, h2.mono s⟩
/-- freezing behind an expression -/
theorem VPost.frz {v : V} {t : OT} {e' : Ev} (p : VPost K mg H F fp σ e' v t H' F' fpe fpv) : Stp H F fp H' (frzF F' H' fpv) fpe ∧ SS K mg H' (frzF F' H' fpv) σ e' fpe ∧ DR K mg (frzF F' H' fpv) v t.view := by
  have sf : Same F' (frzF F' H' fpv) := same_frzF p.own
  refine ⟨(p.st.trans (Stp.frz p.own fun a ha => List.mem_append_left _ ha)).sub fun a ha => List.mem_append_right _ ha, ⟨frzF_same p.ss.le, p.ss.env.keep sf fun _ _ _ h => h, fun a ha => ?_⟩, p.val.frz sf fun a ha => frzF_in ha⟩
  rw [frzF_out (fun q => p.dis a q ha)]
  exact p.ss.own a ha
theorem VsPost.frz {v : List V} {t : List OT} {e' : Ev} (p : VsPost K mg H F fp σ e' v t H' F' fpe fpv) : Stp H F fp H' (frzF F' H' fpv) fpe ∧ SS K mg H' (frzF F' H' fpv) σ e' fpe ∧ DRs K mg (frzF F' H' fpv) v (OT.views t) := by
  have sf : Same F' (frzF F' H' fpv) := same_frzF p.own
  refine ⟨(p.st.trans (Stp.frz p.own fun a ha => List.mem_append_left _ ha)).sub fun a ha => List.mem_append_right _ ha, ⟨frzF_same p.ss.le, p.ss.env.keep sf fun _ _ _ h => h, fun a ha => ?_⟩, p.val.frz sf fun a ha => frzF_in ha⟩
  rw [frzF_out (fun q => p.dis a q ha)]
  exact p.ss.own a ha
theorem opd_use {β : Type} {x : IE} {m : M OT} {f : Option D → Ev → R β} {k : β → Ev → Prop} {cont : V → Hp → Prop} (s0 : Stp H0 F0 fp0 H F fp) (ss : SS K mg H F σ e fp) (h : WP K mg W σ H0 F0 fp0 ((opd x m e).bind f) k)
    (c : ∀ v H1 F1 fp1 r e1, Stp H0 F0 fp0 H1 F1 fp1 → Same F F1 → SS K mg H1 F1 σ e1 fp1 → OpH K mg F1 σ x r v → WP K mg W σ H0 F0 fp0 (f r e1) k → cont v H1) : tO K mg W x m σ H cont := by
  unfold tO
  unfold opd at h
  unfold OpH at c
  cases hx : x.isVar with
  | some j =>
    rw [hx] at h c
    show ∃ v, _
    cases hj : e.at j with
    | none =>
      have : (M.bind (M.get j) (fun _ => M.pure (none : Option D)) e) = .bad := by simp [M.get, hj]
      simp only [this] at h
      exact h.elim
    | some t =>
      have e0 : (M.bind (M.get j) (fun _ => M.pure (none : Option D)) e) = .ok none e := by simp [M.get, hj]
      simp only [e0] at h
      obtain ⟨v, g, h1, h2, h3⟩ := ss.env.at hj
      exact ⟨v, h1, c v H F fp none e s0 (Same.refl F) ss h1 h⟩
  | none =>
    rw [hx] at h c
    refine ⟨F, e, fp, ss, ?_⟩
    cases hm : m e with
    | bad =>
      have e0 : (M.bind m (fun t => M.pure (some t.view)) e) = .bad := by simp [hm]
      simp only [e0] at h
      exact h.elim
    | exn x' e' =>
      have e0 : (M.bind m (fun t => M.pure (some t.view)) e) = .exn x' e' := by simp [hm]
      simp only [e0] at h
      exact Xc.step (g := []) s0 h
    | ok t e' =>
      have e0 : (M.bind m (fun t => M.pure (some t.view)) e) = .ok (some t.view) e' := by simp [hm]
      simp only [e0] at h
      intro v H' F' fpe fpv p
      obtain ⟨q1, q2, q3⟩ := p.frz
      exact c v H' _ fpe (some t.view) e' (s0.trans q1) q1.fz q2 ⟨t.view, rfl, q3⟩ h
theorem fin_use {β : Type} {x : IE} {r : Option D} {v : V} {f : D → Ev → R β} {k : β → Ev → Prop} (ss : SS K mg H F σ e fp) (o : OpH K mg F σ x r v) (h : WP K mg W σ H0 F0 fp0 ((fin x r e).bind f) k) :
    ∃ d, PR K mg H F v d ∧ WP K mg W σ H0 F0 fp0 (f d e) k := by
  unfold fin at h
  unfold OpH at o
  cases hx : x.isVar with
  | some j =>
    rw [hx] at h o
    cases hj : e.at j with
    | none =>
      have e0 : (M.bind (M.get j) (fun t => M.lift t.flat) e) = .bad := by simp [M.get, hj]
      simp only [e0] at h
      exact h.elim
    | some t =>
      cases ht : t.flat with
      | none =>
        have e0 : (M.bind (M.get j) (fun t => M.lift t.flat) e) = .bad := by simp [M.get, hj, ht]
        simp only [e0] at h
        exact h.elim
      | some d =>
        have e0 : (M.bind (M.get j) (fun t => M.lift t.flat) e) = .ok d e := by simp [M.get, hj, ht]
        simp only [e0] at h
        obtain ⟨v', g, h1, h2, h3⟩ := ss.env.at hj
        rw [o] at h1
        cases h1
        exact ⟨d, PR.of h2 ht, h⟩
  | none =>
    rw [hx] at h o
    obtain ⟨d, rfl, h2⟩ := o
    exact ⟨d, .fz h2, h⟩
theorem lift_use {α β : Type} {o : Option α} {f : α → Ev → R β} {k : β → Ev → Prop} (h : WP K mg W σ H0 F0 fp0 ((M.lift o e).bind f) k) : ∃ a, o = some a ∧ WP K mg W σ H0 F0 fp0 (f a e) k := by
  cases o with
  | none => exact h.elim
  | some a => exact ⟨a, rfl, h⟩

/-- behind an operation on values: it makes new things alone -/
def FinP (K : PySem.W.Frag) (mg : Str → Option Value) (H F : Hp) (t : OT) (Q : VK) : Prop :=
  ∀ v H' F' fpv, Stp H F [] H' F' fpv → Same F' H' → OTR K mg H' F' v t fpv → (∀ a ∈ fpv, F' a = none) → Q v H'
theorem finP_of {t : OT} {Q : VK} (ss : SS K mg H F σ e fp) (h : FinV K mg H F fp σ Q t e) : FinP K mg H F t Q := fun v H' F' fpv st le o ow => by
  obtain ⟨k1, k2, k3⟩ := st.held ss.env.there (fun a _ q => nomatch q) ss.own
  refine h v H' F' fp fpv ⟨by simpa using st.frame (gp := fp), ⟨le, ss.env.keep st.fz k1, k2⟩, o, fun a ha q => k3 a q ha, ow⟩
/-- .. the heap as it was -/
theorem FinP.same {d : D} {Q : VK} {v : V} (le : Same F H) (h : FinP K mg H F (.fz d) Q) (r : DR K mg F v d) : Q v H := h v H F [] Stp.refl le (.fz r) fun _ z => nomatch z
/-- .. a new object: data -/
theorem FinP.new {d : D} {Q : VK} {p : Addr} {o : HO} (le : Same F H) (h : FinP K mg H F (.fz d) Q) (hp : H p = none) (r : DR K mg (upd F p o) (.ref p) d) : Q (.ref p) (upd H p o) :=
  h _ _ (upd F p o) [] (Stp.newF hp le) (same_upd2 le) (.fz r) fun _ z => nomatch z
/-- .. a new list, owned -/
theorem FinP.newL {ds : List D} {vs : List V} {Q : VK} {p : Addr} (le : Same F H) (h : FinP K mg H F (.ml ds) Q) (hp : H p = none) (r : DRs K mg F vs ds) (hz : vs.length ≤ sizeLine) : Q (.ref p) (upd H p (.lst vs)) :=
  h _ _ F [p] (Stp.newO hp) (same_new le hp) (by
    have go : ∀ {vs : List V} {ds : List D}, DRs K mg F vs ds → OTRs K mg (upd H p (.lst vs)) F vs (ds.map .fz) [] := fun {vs ds} r => by
      have go2 : ∀ {vs : List V} {ds : List D} (H : Hp), DRs K mg F vs ds → OTRs K mg H F vs (ds.map .fz) [] := fun {vs} => by
        induction vs with
        | nil => intro ds H r; cases r; exact .nil
        | cons v vs ih =>
          intro ds H r
          cases r with
          | cons a b => exact .cons (fp := []) (fps := []) (.fz a) (ih H b) fun _ z => nomatch z
      exact go2 _ r
    exact .lst upd_same hz (go r) (fun z => nomatch z)) fun a ha => by
      have : a = p := by simpa using ha
      rw [this]
      exact Same.free le hp

/-! ### operations on values -/
def R2D (K : PySem.W.Frag) (mg : Str → Option Value) (g : D → D → Option OT) : R2 := fun x y H Q => ∃ F d1 d2 t, Same F H ∧ PR K mg H F x d1 ∧ PR K mg H F y d2 ∧ g d1 d2 = some t ∧ FinP K mg H F t Q
def OpD (X : Cx) (f : Value → Value → Sem Value) (g : D → D → Option OT) : Prop := OpR X f (R2D X.K X.mg g)
def R1D (K : PySem.W.Frag) (mg : Str → Option Value) (g : D → Option OT) : V → Hp → VK → Prop := fun x H Q => ∃ F d t, Same F H ∧ PR K mg H F x d ∧ g d = some t ∧ FinP K mg H F t Q
def RcD (K : PySem.W.Frag) (mg : Str → Option Value) (g : List D → Option OT) : List V → Hp → VK → Prop := fun xs H Q => ∃ F ds t, Same F H ∧ PRs K mg H F xs ds ∧ g ds = some t ∧ FinP K mg H F t Q
def RmD (K : PySem.W.Frag) (mg : Str → Option Value) (g : D → List D → Option OT) : V → List V → Hp → VK → Prop := fun x xs H Q => ∃ F d ds t, Same F H ∧ PR K mg H F x d ∧ PRs K mg H F xs ds ∧ g d ds = some t ∧ FinP K mg H F t Q
abbrev bl2 (g : D → D → Option Bool) : D → D → Option OT := fun a b => (g a b).map fun k => .fz (.bl k)
end

section
variable {X : Cx} {W : WX} {pos : Pos} {a b c e : Expr} {xa xb xc : IE} {ma mb mc : M OT} {te : TE}
abbrev tOX (X : Cx) (W : WX) (x : IE) (m : M OT) : TE := tO X.K X.mg W x m
abbrev tDX (X : Cx) (W : WX) (m : M OT) : TE := tD X.K X.mg W m
abbrev tDbX (X : Cx) (W : WX) (m : M Bool) : TT := tDb X.K X.mg W m
/-- two operands, then what is asked of their values -/
theorem op2_use {K : PySem.W.Frag} {mg : Str → Option Value} {σ : L2.St} {H F H0 F0 : Hp} {fp fp0 : List Addr} {en : Ev} {β : Type} {f : D → D → Option D → M β} {k : β → Ev → Prop} {cont : V → V → Hp → Prop}
    (s0 : Stp H0 F0 fp0 H F fp) (ss : SS K mg H F σ en fp) (h : WP K mg W σ H0 F0 fp0 (op2M xa xb ma mb f en) k)
    (cc : ∀ v w H2 F2 fp2 e2 x y rb, Stp H0 F0 fp0 H2 F2 fp2 → SS K mg H2 F2 σ e2 fp2 → PR K mg H2 F2 v x → PR K mg H2 F2 w y → OpH K mg F2 σ xb rb w → WP K mg W σ H0 F0 fp0 (f x y rb e2) k → cont v w H2) :
    tO K mg W xa ma σ H fun v H1 => tO K mg W xb mb σ H1 fun w H2 => cont v w H2 := by
  refine opd_use s0 ss h fun v H1 F1 fp1 ra e1 s1 _ ss1 o1 h1 => ?_
  refine opd_use s1 ss1 h1 fun w H2 F2 fp2 rb e2 s2 sf2 ss2 o2 h2 => ?_
  obtain ⟨x, px, h3⟩ := fin_use ss2 (o1.mono sf2) h2
  obtain ⟨y, py, h4⟩ := fin_use ss2 o2 h3
  exact cc v w H2 F2 fp2 e2 x y rb s2 ss2 px py o2 h4
theorem lift_end {K : PySem.W.Frag} {mg : Str → Option Value} {σ : L2.St} {H F H0 F0 : Hp} {fp fp0 : List Addr} {en : Ev} {o : Option OT} {Q : VK} (s : Stp H0 F0 fp0 H F fp) (ss : SS K mg H F σ en fp) (h : WP K mg W σ H0 F0 fp0 (M.lift o en) (FinV K mg H0 F0 fp0 σ Q)) : ∃ t, o = some t ∧ FinP K mg H F t Q := by
  cases o with
  | none => exact h.elim
  | some t => exact ⟨t, rfl, finP_of ss (FinV.step s h)⟩

/-! ### operators -/
theorem pe_bop {op : Operator} {g : D → D → Option OT} (ho : OpD X (binaryOp op) g) (ha : PE X a (tOX X W xa ma)) (hb : PE X b (tOX X W xb mb)) :
    PE X (.BinOp a op b pos) (tDX X W (bopM g xa xb ma mb)) := by
  refine PE.imp (pe_op ho ha hb) fun σ H Q h => ?_
  obtain ⟨F, e, fp, ss, h⟩ := h
  refine op2_use Stp.refl ss h fun v w H2 F2 fp2 e2 x y rb s2 ss2 px py _ h2 => ?_
  obtain ⟨t, ht, hq⟩ := lift_end s2 ss2 h2
  exact ⟨F2, x, y, t, ss2.le, px, py, ht, hq⟩
theorem bl2_some {g : D → D → Option Bool} {x y : D} {t : OT} (h : bl2 g x y = some t) : ∃ k, g x y = some k ∧ t = .fz (.bl k) := by
  unfold bl2 at h
  cases hg : g x y with
  | none => rw [hg] at h; cases h
  | some k => rw [hg] at h; exact ⟨k, rfl, (Option.some.inj h).symm⟩
theorem cmp_end {K : PySem.W.Frag} {mg : Str → Option Value} {σ : L2.St} {H F H0 F0 : Hp} {fp fp0 : List Addr} {en : Ev} {o : Option Bool} {Q : VK} (s : Stp H0 F0 fp0 H F fp) (ss : SS K mg H F σ en fp)
    (h : WP K mg W σ H0 F0 fp0 (blM o en) (FinV K mg H0 F0 fp0 σ Q)) : ∃ k, o = some k ∧ FinP K mg H F (.fz (.bl k)) Q := by
  cases o with
  | none => exact h.elim
  | some k => exact ⟨k, rfl, finP_of ss (FinV.step s h)⟩
theorem pe_cmpD {op : CmpOp} {g : D → D → Option Bool} (ho : OpD X (compareOp op) (bl2 g)) (ha : PE X a (tOX X W xa ma)) (hb : PE X b (tOX X W xb mb)) (hm : behindInMarks op b = false) :
    PE X (.Compare a [op] [b] pos) (tDX X W (cmpM g xa xb ma mb)) := by
  refine PE.imp (pe_cmpR ho ha hb hm) fun σ H Q h => ?_
  obtain ⟨F, e, fp, ss, h⟩ := h
  refine op2_use Stp.refl ss h fun v w H2 F2 fp2 e2 x y rb s2 ss2 px py _ h2 => ?_
  obtain ⟨k, hk, hq⟩ := cmp_end s2 ss2 h2
  exact ⟨F2, x, y, _, ss2.le, px, py, by unfold bl2; rw [hk]; rfl, hq⟩
theorem pt_cmpD {op : CmpOp} {g : D → D → Option Bool} (ho : OpD X (compareOp op) (bl2 g)) (ha : PE X a (tOX X W xa ma)) (hb : PE X b (tOX X W xb mb)) (hm : behindInMarks op b = false) :
    PT X (.Compare a [op] [b] pos) (tDbX X W (cmpT g xa xb ma mb)) := by
  refine PT.imp (pt_cmpR ho ha hb hm) fun σ H Q h => ?_
  obtain ⟨F, e, fp, ss, h⟩ := h
  refine op2_use (cont := fun v w H2 => R2D X.K X.mg (bl2 g) v w H2 fun x H' => ∃ k, x = .bl k ∧ Q k H') Stp.refl ss h fun v w H2 F2 fp2 e2 x y rb s2 ss2 px py _ h2 => ?_
  cases hg : g x y with
  | none => rw [hg] at h2; exact h2.elim
  | some k =>
    rw [hg] at h2
    have h2 : FinB X.K X.mg H F fp σ Q k e2 := h2
    refine ⟨F2, x, y, _, ss2.le, px, py, by unfold bl2; rw [hg]; rfl, fun v H' F' fpv st le o ow => ?_⟩
    cases o with
    | fz d =>
      cases d with
      | bl =>
        obtain ⟨k1, k2, k3⟩ := st.held ss2.env.there (fun a _ q => nomatch q) ss2.own
        exact ⟨k, rfl, h2 H' F' fp2 (s2.trans (by simpa using st.frame (gp := fp2))) ⟨le, ss2.env.keep st.fz k1, k2⟩⟩
end
end Rx
end

section
/-! Rx, part 4: expressions, further: names, constants, displays, and/or/not, tests, subscripts. -/
namespace Rx
open PySem PySem.Spec PyProof.Rows L2
variable [Prw]

theorem nm {P : Addr → Prop} : ∀ a ∈ ([] : List Addr), P a := fun _ z => nomatch z
section
variable {K : PySem.W.Frag} {mg : Str → Option Value} {W : WX} {σ : L2.St} {H F H' F' H1 F1 H0 F0 : Hp} {fp fp1 fp0 fpe fpv : List Addr} {e : Ev}
/-- an expression, then what is asked of its value -/
theorem tD_use {β : Type} {m : M OT} {f : OT → Ev → R β} {k : β → Ev → Prop} {cont : V → Hp → Prop} (s0 : Stp H0 F0 fp0 H F fp) (ss : SS K mg H F σ e fp) (h : WP K mg W σ H0 F0 fp0 ((m e).bind f) k)
    (c : ∀ v t H1 F1 fpe fpv e1, VPost K mg H F fp σ e1 v t H1 F1 fpe fpv → WP K mg W σ H0 F0 fp0 (f t e1) k → cont v H1) : tD K mg W m σ H cont := by
  refine ⟨F, e, fp, ss, ?_⟩
  cases hm : m e with
  | bad => rw [hm] at h; exact h.elim
  | exn x e1 => rw [hm] at h; exact Xc.step (g := []) s0 h
  | ok t e1 => rw [hm] at h; exact fun v H1 F1 fpe fpv p => c v t H1 F1 fpe fpv e1 p h
/-- .. its value frozen -/
theorem tD_useF {β : Type} {m : M OT} {f : OT → Ev → R β} {k : β → Ev → Prop} {cont : V → Hp → Prop} (s0 : Stp H0 F0 fp0 H F fp) (ss : SS K mg H F σ e fp) (h : WP K mg W σ H0 F0 fp0 ((m e).bind f) k)
    (c : ∀ v t H1 F1 fp1 e1, Stp H0 F0 fp0 H1 F1 fp1 → Same F F1 → SS K mg H1 F1 σ e1 fp1 → DR K mg F1 v t.view → WP K mg W σ H0 F0 fp0 (f t e1) k → cont v H1) : tD K mg W m σ H cont :=
  tD_use s0 ss h fun v t H1 F1 fpe fpv e1 p h1 => by
    obtain ⟨q1, q2, q3⟩ := p.frz
    exact c v t H1 _ fpe e1 (s0.trans q1) q1.fz q2 q3 h1
theorem tDs_use {β : Type} {m : M (List OT)} {f : List OT → Ev → R β} {k : β → Ev → Prop} {cont : List V → Hp → Prop} (s0 : Stp H0 F0 fp0 H F fp) (ss : SS K mg H F σ e fp) (h : WP K mg W σ H0 F0 fp0 ((m e).bind f) k)
    (c : ∀ v t H1 F1 fpe fpv e1, VsPost K mg H F fp σ e1 v t H1 F1 fpe fpv → WP K mg W σ H0 F0 fp0 (f t e1) k → cont v H1) : tDs K mg W m σ H cont := by
  refine ⟨F, e, fp, ss, ?_⟩
  cases hm : m e with
  | bad => rw [hm] at h; exact h.elim
  | exn x e1 => rw [hm] at h; exact Xc.step (g := []) s0 h
  | ok t e1 => rw [hm] at h; exact fun v H1 F1 fpe fpv p => c v t H1 F1 fpe fpv e1 p h
theorem tDb_use {β : Type} {m : M Bool} {f : Bool → Ev → R β} {k : β → Ev → Prop} {cont : Bool → Hp → Prop} (s0 : Stp H0 F0 fp0 H F fp) (ss : SS K mg H F σ e fp) (h : WP K mg W σ H0 F0 fp0 ((m e).bind f) k)
    (c : ∀ b H1 F1 fp1 e1, Stp H0 F0 fp0 H1 F1 fp1 → Same F F1 → SS K mg H1 F1 σ e1 fp1 → WP K mg W σ H0 F0 fp0 (f b e1) k → cont b H1) : tDb K mg W m σ H cont := by
  refine ⟨F, e, fp, ss, ?_⟩
  cases hm : m e with
  | bad => rw [hm] at h; exact h.elim
  | exn x e1 => rw [hm] at h; exact Xc.step (g := []) s0 h
  | ok b e1 => rw [hm] at h; exact fun H1 F1 fp1 st s1 => c b H1 F1 fp1 e1 (s0.trans st) st.fz s1 h
/-- the end of an expression: frozen data at hand -/
theorem endF {Q : VK} {v : V} {d : D} (s : Stp H0 F0 fp0 H F fp) (ss : SS K mg H F σ e fp) (r : DR K mg F v d) (h : FinV K mg H0 F0 fp0 σ Q (.fz d) e) : Q v H :=
  h v H F fp [] ⟨s, ss, .fz r, nm, nm⟩
theorem endV {Q : VK} {v : V} {t : OT} {e1 : Ev} (s : Stp H0 F0 fp0 H F fp) (p : VPost K mg H F fp σ e1 v t H1 F1 fpe fpv) (h : FinV K mg H0 F0 fp0 σ Q t e1) : Q v H1 :=
  h v H1 F1 fpe fpv ⟨s.trans p.st, p.ss, p.val, p.dis, p.own⟩
/-- the end: what the operation makes, from here -/
theorem goOn {m : M OT} {Q : VK} (s : Stp H0 F0 fp0 H F fp) (ss : SS K mg H F σ e fp) (h : WP K mg W σ H0 F0 fp0 (m e) (FinV K mg H0 F0 fp0 σ Q)) : tD K mg W m σ H Q :=
  ⟨F, e, fp, ss, WP.step (g := []) s (fun _ _ q => FinV.step s q) h⟩
theorem goOnB {m : M Bool} {Q : Bool → Hp → Prop} (s : Stp H0 F0 fp0 H F fp) (ss : SS K mg H F σ e fp) (h : WP K mg W σ H0 F0 fp0 (m e) (FinB K mg H0 F0 fp0 σ Q)) : tDb K mg W m σ H Q :=
  ⟨F, e, fp, ss, WP.step (g := []) s (fun _ _ q => FinB.step s q) h⟩
theorem endB {Q : Bool → Hp → Prop} {b : Bool} (s : Stp H0 F0 fp0 H F fp) (ss : SS K mg H F σ e fp) (h : FinB K mg H0 F0 fp0 σ Q b e) : Q b H := h H F fp s ss
theorem DRs.length : ∀ {vs : List V} {ds : List D}, DRs K mg F vs ds → vs.length = ds.length
  | _, _, .nil => rfl
  | _, _, .cons _ r => by simp [DRs.length r]
theorem OTRs.length : ∀ {vs : List V} {ts : List OT} {fp : List Addr}, OTRs K mg H F vs ts fp → vs.length = ts.length
  | _, _, _, .nil => rfl
  | _, _, _, .cons _ r _ => by simp [OTRs.length r]
end
theorem evs_length : ∀ {es : List IE} {e e' : Ev} {ts : List OT}, evs es e = .ok ts e' → ts.length = es.length
  | [], e, e', ts, h => by
    have : R.ok ([] : List OT) e = .ok ts e' := h
    cases this; rfl
  | x :: r, e, e', ts, h => by
    have h : ((sem x).1 e).bind (fun t e1 => (evs r e1).bind fun ts e2 => .ok (t :: ts) e2) = .ok ts e' := h
    cases h1 : (sem x).1 e with
    | bad => rw [h1] at h; cases h
    | exn => rw [h1] at h; cases h
    | ok t e1 =>
      rw [h1] at h
      simp only [R.bind] at h
      cases h2 : evs r e1 with
      | bad => rw [h2] at h; cases h
      | exn => rw [h2] at h; cases h
      | ok ts1 e2 =>
        rw [h2] at h
        simp only [R.bind] at h
        cases h
        simp [evs_length h2]

section
variable {X : Cx} {W : WX} {pos : Pos} {a b c e : Expr} {es rest : List Expr} {xa xb xc : IE} {ma mb mc : M OT} {te : TE}
/-! ### names, constants -/
theorem pe_read {j : Nat} (hv : PE X e (tVar j)) : PE X e (tDX X W (M.read j)) := by
  refine PE.imp hv fun σ H Q h => ?_
  obtain ⟨F, en, fp, ss, h⟩ := h
  unfold M.read at h
  cases hj : en.at j with
  | none => simp only [hj] at h; exact h.elim
  | some t =>
    obtain ⟨v, g, rest, h1, h2, h3, h4, h5⟩ := ss.env.take hj
    refine ⟨v, h1, ?_⟩
    have fz : ∀ {d : D}, t = .fz d → Q v H := fun {d} hd => by
      subst hd
      simp only [hj] at h
      cases h2 with
      | fz r => exact h v H F fp [] ⟨Stp.refl, ss, .fz r, nm, nm⟩
    have ow : (∀ d, t ≠ .fz d) → Q v H := fun hd => by
      have h : FinV X.K X.mg H F fp σ Q (.fz t.view) (en.set j (some (.fz t.view))) := by
        cases t with
        | fz d => exact absurd rfl (hd d)
        | lst ts => simp only [hj] at h; exact h
        | dic kvs => simp only [hj] at h; exact h
        | din kvs => simp only [hj] at h; exact h
        | ins c fs => simp only [hj] at h; exact h
      have ng : ∀ a ∈ g, F a = none := fun a ha => ss.own a ((h4 a).mpr (.inl ha))
      have sf := same_frzF (H := H) ng
      have hd2 : DR X.K X.mg (frzF F H g) v t.view := h2.frz sf fun a ha => frzF_in ha
      obtain ⟨fp', k1, k2⟩ := EvR.put (g := []) (h3.keep sf (H' := H) fun _ _ _ q => q) h1 (.fz hd2) nm
      have k2' : ∀ a ∈ fp', a ∈ rest := fun a ha => (k2 a ha).elim (fun z => nomatch z) id
      have e1 : (en.set j none).set j (some (.fz t.view)) = en.set j (some (.fz t.view)) := by rw [List.set_set]
      rw [e1] at k1
      refine h v H (frzF F H g) fp' [] ⟨?_, ⟨frzF_same ss.le, k1, fun a ha => ?_⟩, .fz hd2, nm, nm⟩
      · exact (Stp.frz ng fun a ha => (h4 a).mpr (.inl ha)).sub fun a ha => (h4 a).mpr (.inr (k2' a (by simpa using ha)))
      · rw [frzF_out fun q => h5 a q (k2' a ha)]
        exact ss.own a ((h4 a).mpr (.inr (k2' a ha)))
    cases t with
    | fz d => exact fz rfl
    | lst ts => exact ow (fun d z => nomatch z)
    | dic kvs => exact ow (fun d z => nomatch z)
    | din kvs => exact ow (fun d z => nomatch z)
    | ins c fs => exact ow (fun d z => nomatch z)
theorem pe_move {j : Nat} (hv : PE X e (tVar j)) : PE X e (tDX X W (M.move j)) := by
  refine PE.imp hv fun σ H Q h => ?_
  obtain ⟨F, en, fp, ss, h⟩ := h
  unfold M.move at h
  cases hj : en.at j with
  | none => simp only [hj] at h; exact h.elim
  | some t =>
    obtain ⟨v, g, rest, h1, h2, h3, h4, h5⟩ := ss.env.take hj
    refine ⟨v, h1, ?_⟩
    have fz : ∀ {d : D}, t = .fz d → Q v H := fun {d} hd => by
      subst hd
      simp only [hj] at h
      cases h2 with
      | fz r => exact h v H F fp [] ⟨Stp.refl, ss, .fz r, nm, nm⟩
    have ow : (∀ d, t ≠ .fz d) → Q v H := fun hd => by
      have h : FinV X.K X.mg H F fp σ Q t (en.set j none) := by
        cases t with
        | fz d => exact absurd rfl (hd d)
        | lst ts => simp only [hj] at h; exact h
        | dic kvs => simp only [hj] at h; exact h
        | din kvs => simp only [hj] at h; exact h
        | ins c fs => simp only [hj] at h; exact h
      refine h v H F rest g ⟨?_, ⟨ss.le, h3, fun a ha => ss.own a ((h4 a).mpr (.inr ha))⟩, h2, h5, fun a ha => ss.own a ((h4 a).mpr (.inl ha))⟩
      exact Stp.refl.sub fun a ha => (h4 a).mpr (List.mem_append.mp ha)
    cases t with
    | fz d => exact fz rfl
    | lst ts => exact ow (fun d z => nomatch z)
    | dic kvs => exact ow (fun d z => nomatch z)
    | din kvs => exact ow (fun d z => nomatch z)
    | ins c fs => exact ow (fun d z => nomatch z)
theorem pe_c {v : V} {d : D} (h : PE X e (tC v)) (r : ∀ F, DR X.K X.mg F v d) : PE X e (tDX X W (M.pure (.fz d))) := by
  refine PE.imp h fun σ H Q q => ?_
  obtain ⟨F, en, fp, ss, q⟩ := q
  exact q v H F fp [] ⟨Stp.refl, ss, .fz (r F), nm, nm⟩

/-! ### displays -/
theorem pa_nilD : PA X [] (tDs X.K X.mg W (evs [])) := by
  refine PA.imp pa_nil fun σ H Q q => ?_
  obtain ⟨F, en, fp, ss, q⟩ := q
  exact q [] H F fp [] ⟨Stp.refl, ss, .nil, nm, nm⟩
theorem pa_consD {x : IE} {r : List IE} (ha : PE X a (tDX X W (sem x).1)) (hr : PA X es (tDs X.K X.mg W (evs r))) (hs : starEach (a :: es) X.env = (false, eval a X.env) :: starEach es X.env) :
    PA X (a :: es) (tDs X.K X.mg W (evs (x :: r))) := by
  refine PA.imp (pa_cons ha hr hs) fun σ H Q q => ?_
  obtain ⟨F, en, fp, ss, q⟩ := q
  have q : WP X.K X.mg W σ H F fp (((sem x).1 en).bind fun t e1 => (evs r e1).bind fun ts e2 => .ok (t :: ts) e2) (FinVs X.K X.mg H F fp σ Q) := q
  refine tD_use Stp.refl ss q fun v t H1 F1 fpe fpv e1 p h1 => ?_
  refine ⟨F1, e1, fpe, p.ss, ?_⟩
  cases hm : evs r e1 with
  | bad => rw [hm] at h1; exact h1.elim
  | exn x e2 => rw [hm] at h1; exact Xc.step p.st h1
  | ok ts e2 =>
    rw [hm] at h1
    intro vs H2 F2 fpe2 fpv2 p2
    obtain ⟨k1, k2, k3⟩ := p2.st.held p.val.there p.dis p.own
    have h1 : FinVs X.K X.mg H F fp σ Q (t :: ts) e2 := h1
    refine h1 (v :: vs) H2 F2 fpe2 (fpv ++ fpv2) ⟨?_, p2.ss, .cons (p.val.keep p2.st.fz k1) p2.val fun a ha q => k3 a ha (List.mem_append_left _ q), fun a ha => ?_, fun a ha => ?_⟩
    · have := p.st.trans p2.st.frameL
      rw [List.append_assoc]
      exact this
    · rcases List.mem_append.mp ha with ha | ha
      · exact fun q => k3 a ha (List.mem_append_right _ q)
      · exact p2.dis a ha
    · rcases List.mem_append.mp ha with ha | ha
      · exact k2 a ha
      · exact p2.own a ha
theorem small_line {n : Nat} (h : n ≤ 100000) : n ≤ sizeLine := Nat.le_trans h (by decide)
theorem pe_tupD {xs : List IE} {n : Nat} (hl : xs.length ≤ 100000) (h : PA X es (tDs X.K X.mg W (evs xs))) : PE X (.Tuple es n pos) (tDX X W (M.bind (evs xs) fun ts => M.pure (.fz (.tup (OT.views ts))))) := by
  refine PE.imp (pe_tup h) fun σ H Q q => ?_
  obtain ⟨F, en, fp, ss, q⟩ := q
  have q : WP X.K X.mg W σ H F fp ((evs xs en).bind fun ts e1 => .ok (.fz (.tup (OT.views ts))) e1) (FinV X.K X.mg H F fp σ Q) := q
  have hlen : ∀ {ts e1}, evs xs en = .ok ts e1 → ts.length = xs.length := fun h => evs_length h
  refine ⟨F, en, fp, ss, ?_⟩
  cases hm : evs xs en with
  | bad => rw [hm] at q; exact q.elim
  | exn x e1 => rw [hm] at q; exact q
  | ok ts e1 =>
    rw [hm] at q
    intro vs H1 F1 fpe fpv p
    have hz : vs.length ≤ sizeLine := by rw [p.val.length, hlen hm]; exact small_line hl
    refine ⟨hz, fun pp hp => ?_⟩
    obtain ⟨q1, q2, q3⟩ := p.frz
    have st := q1.trans (Stp.newF (o := .tup vs) hp q2.le)
    have q : FinV X.K X.mg H F fp σ Q (.fz (.tup (OT.views ts))) e1 := q
    have sm : Same (frzF F1 H1 fpv) (upd (frzF F1 H1 fpv) pp (.tup vs)) := (Stp.newF (fp := fpe) (o := .tup vs) hp q2.le).fz
    refine q (.ref pp) _ _ fpe [] ⟨by simpa using st, ⟨same_upd2 q2.le, ?_, ?_⟩, .fz (.tup (SqT.of upd_same) hz (q3.mono sm)), nm, nm⟩
    · exact q2.env.keep sm fun a ha o e => by rw [upd_ne (ne_of_none e hp)]; exact e
    · intro a ha
      have : a ≠ pp := fun z => by
        obtain ⟨o, e⟩ := q2.env.there a ha
        rw [z, hp] at e; cases e
      rw [upd_ne this]
      exact q2.own a ha
theorem pe_lstD {xs : List IE} (hl : xs.length ≤ 100000) (h : PA X es (tDs X.K X.mg W (evs xs))) : PE X (.List es pos) (tDX X W (M.bind (evs xs) fun ts => M.pure (.lst ts))) := by
  refine PE.imp (pe_lst h) fun σ H Q q => ?_
  obtain ⟨F, en, fp, ss, q⟩ := q
  have q : WP X.K X.mg W σ H F fp ((evs xs en).bind fun ts e1 => .ok (.lst ts) e1) (FinV X.K X.mg H F fp σ Q) := q
  have hlen : ∀ {ts e1}, evs xs en = .ok ts e1 → ts.length = xs.length := fun h => evs_length h
  refine ⟨F, en, fp, ss, ?_⟩
  cases hm : evs xs en with
  | bad => rw [hm] at q; exact q.elim
  | exn x e1 => rw [hm] at q; exact q
  | ok ts e1 =>
    rw [hm] at q
    intro vs H1 F1 fpe fpv p
    have hz : vs.length ≤ sizeLine := by rw [p.val.length, hlen hm]; exact small_line hl
    refine ⟨hz, fun pp hp => ?_⟩
    have hk : ∀ {gp : List Addr}, (∀ a ∈ gp, ∃ o, H1 a = some o) → ∀ a ∈ gp, a ≠ pp := fun {gp} ht a ha z => by
      obtain ⟨o, e⟩ := ht a ha
      rw [z, hp] at e; cases e
    have k1 := hk p.val.there
    have k2 := hk p.ss.env.there
    have q : FinV X.K X.mg H F fp σ Q (.lst ts) e1 := q
    refine q (.ref pp) _ F1 fpe (pp :: fpv) ⟨?_, ⟨same_new p.ss.le hp, ?_, p.ss.own⟩, .lst upd_same hz ?_ (fun z => k1 pp z rfl), ?_, ?_⟩
    · have := p.st.trans (Stp.newO (o := .lst vs) hp)
      simpa using this
    · exact p.ss.env.keep (Same.refl _) fun a ha o e => by rw [upd_ne (k2 a ha)]; exact e
    · exact p.val.keep (Same.refl _) fun a ha o e => by rw [upd_ne (k1 a ha)]; exact e
    · intro a ha
      rcases List.mem_cons.mp ha with rfl | ha
      · exact fun z => k2 a z rfl
      · exact p.dis a ha
    · intro a ha
      rcases List.mem_cons.mp ha with rfl | ha
      · exact Same.free p.ss.le hp
      · exact p.own a ha

/-! ### tests -/
theorem str_ne (s : List Nat) : (!s.isEmpty) = (((strOf s).length : Int) != 0) := by
  cases s with
  | nil => rfl
  | cons c s =>
    have h : (strOf (c :: s)).length ≠ 0 := by simp [strOf, Str.length]
    simp [h]
theorem truV_of {K : PySem.W.Frag} {mg : Str → Option Value} {H F : Hp} {v : V} {d : D} {k : Bool} (le : Same F H) (p : PR K mg H F v d) (h : d.truth = some k) : TruV K v H k := by
  have q := p.all le
  cases q with
  | non => cases h; rfl
  | bl b => cases h; rfl
  | int i => cases h; rfl
  | str hl _ =>
    cases h
    refine ⟨by simpa [strOf, Str.length] using hl, ?_⟩
    exact str_ne _
  | tup hs hz r =>
    cases h
    refine .inr (.inl ⟨_, hs, ?_⟩)
    cases r <;> rfl
  | lst hs hz r =>
    cases h
    refine .inl ⟨_, SqL.of hs, ?_⟩
    cases r <;> rfl
  | lk hs hz r =>
    cases h
    refine .inl ⟨_, hs, ?_⟩
    cases r <;> rfl
  | dK hs r => cases h
  | dN hs r => cases h
  | adr => cases h
  | tpn => cases h
  | ali => cases h
  | ins => cases h
  | fn => cases h
theorem pt_truthD (ha : PE X a (tOX X W xa ma)) (he : ∀ whole, isTrue a X.env whole = (do let v ← whole; standAt a.pos; holding [v] (truthy v))) : PT X a (tDbX X W (truthM xa ma)) := by
  refine PT.imp (pt_truth ha he) fun σ H Q h => ?_
  obtain ⟨F, en, fp, ss, h⟩ := h
  refine opd_use Stp.refl ss h fun v H1 F1 fp1 r e1 s1 _ ss1 o1 h1 => ?_
  obtain ⟨d, pd, h2⟩ := fin_use ss1 o1 h1
  have h2 : WP X.K X.mg W σ H F fp (M.lift d.truth e1) (FinB X.K X.mg H F fp σ Q) := h2
  cases hk : d.truth with
  | none => rw [hk] at h2; exact h2.elim
  | some k =>
    rw [hk] at h2
    exact ⟨k, truV_of ss1.le pd hk, endB s1 ss1 h2⟩
theorem pe_notD (ha : PE X a (tOX X W xa ma)) : PE X (.UnaryOp .Not a pos) (tDX X W (M.bind (truthM xa ma) fun b => M.pure (.fz (.bl (!b))))) := by
  refine PE.imp (pe_notT ha) fun σ H Q h => ?_
  obtain ⟨F, en, fp, ss, h⟩ := h
  have h : WP X.K X.mg W σ H F fp (((opd xa ma en).bind fun r e1 => (fin xa r e1).bind fun d e2 => M.lift d.truth e2).bind fun b e3 => .ok (.fz (.bl (!b))) e3) (FinV X.K X.mg H F fp σ Q) := h
  have hb : ∀ {α β γ : Type} (r : R α) (f : α → Ev → R β) (g : β → Ev → R γ), (r.bind f).bind g = r.bind fun a e => (f a e).bind g := fun r f g => by cases r <;> rfl
  rw [hb] at h
  refine opd_use Stp.refl ss h fun v H1 F1 fp1 r e1 s1 _ ss1 o1 h1 => ?_
  rw [hb] at h1
  obtain ⟨d, pd, h2⟩ := fin_use ss1 o1 h1
  have h2 : WP X.K X.mg W σ H F fp ((M.lift d.truth e1).bind fun b e3 => .ok (.fz (.bl (!b))) e3) (FinV X.K X.mg H F fp σ Q) := h2
  cases hk : d.truth with
  | none => rw [hk] at h2; exact h2.elim
  | some k =>
    rw [hk] at h2
    exact ⟨k, truV_of ss1.le pd hk, endF s1 ss1 (.bl _) h2⟩
theorem pt_notD {m : M Bool} (ha : PT X a (tDbX X W m)) : PT X (.UnaryOp .Not a pos) (tDbX X W (M.bind m fun b => M.pure (!b))) := by
  refine PT.imp (pt_not ha) fun σ H Q h => ?_
  obtain ⟨F, en, fp, ss, h⟩ := h
  exact tDb_use Stp.refl ss h fun b H1 F1 fp1 e1 s1 _ ss1 h1 => endB s1 ss1 h1
theorem pw_and1D {m : M Bool} (ha : PT X a (tDbX X W m)) : PW X (.BoolOp .And [a] pos) (tDbX X W (M.bind m fun b => (match b with | true => M.pure true | false => M.pure false))) := by
  refine PW.imp (pw_and1 ha) fun σ H Q h => ?_
  obtain ⟨F, en, fp, ss, h⟩ := h
  refine tDb_use Stp.refl ss h fun b H1 F1 fp1 e1 s1 _ ss1 h1 => ?_
  cases b <;> exact endB s1 ss1 h1
theorem pw_or1D {m : M Bool} (ha : PT X a (tDbX X W m)) : PW X (.BoolOp .Or [a] pos) (tDbX X W (M.bind m fun b => (match b with | false => M.pure false | true => M.pure true))) := by
  refine PW.imp (pw_or1 ha) fun σ H Q h => ?_
  obtain ⟨F, en, fp, ss, h⟩ := h
  refine tDb_use Stp.refl ss h fun b H1 F1 fp1 e1 s1 _ ss1 h1 => ?_
  cases b <;> exact endB s1 ss1 h1
theorem pw_andD {m m2 : M Bool} (ha : PT X a (tDbX X W m)) (hb : PW X (.BoolOp .And (b :: rest) pos) (tDbX X W m2)) : PW X (.BoolOp .And (a :: b :: rest) pos) (tDbX X W (M.bind m fun b => (match b with | true => m2 | false => M.pure false))) := by
  refine PW.imp (pw_and ha hb) fun σ H Q h => ?_
  obtain ⟨F, en, fp, ss, h⟩ := h
  refine tDb_use Stp.refl ss h fun b H1 F1 fp1 e1 s1 _ ss1 h1 => ?_
  cases b with
  | true => exact iteT (goOnB s1 ss1 h1)
  | false => exact iteF (endB s1 ss1 h1)
theorem pw_orD {m m2 : M Bool} (ha : PT X a (tDbX X W m)) (hb : PW X (.BoolOp .Or (b :: rest) pos) (tDbX X W m2)) : PW X (.BoolOp .Or (a :: b :: rest) pos) (tDbX X W (M.bind m fun b => (match b with | false => m2 | true => M.pure true))) := by
  refine PW.imp (pw_or ha hb) fun σ H Q h => ?_
  obtain ⟨F, en, fp, ss, h⟩ := h
  refine tDb_use Stp.refl ss h fun b H1 F1 fp1 e1 s1 _ ss1 h1 => ?_
  cases b with
  | true => exact iteT (endB s1 ss1 h1)
  | false => exact iteF (goOnB s1 ss1 h1)
theorem bl_of {K : PySem.W.Frag} {mg : Str → Option Value} {F : Hp} {v : V} {b : Bool} (h : DR K mg F v (.bl b)) : v = .bl b := by cases h; rfl
theorem pe_andD {m m2 : M OT} (ha : PE X a (tDX X W m)) (hb : PE X (.BoolOp .And (b :: rest) pos) (tDX X W m2)) : PE X (.BoolOp .And (a :: b :: rest) pos) (tDX X W (M.bind m fun t => andK t.view m2)) := by
  refine PE.imp (pe_and ha hb) fun σ H Q h => ?_
  obtain ⟨F, en, fp, ss, h⟩ := h
  refine tD_useF Stp.refl ss h fun v t H1 F1 fp1 e1 s1 _ ss1 r1 h1 => ?_
  have h1 : WP X.K X.mg W σ H F fp (andK t.view m2 e1) (FinV X.K X.mg H F fp σ Q) := h1
  generalize t.view = d at r1 h1
  cases d with
  | bl k =>
    have := bl_of r1
    subst this
    refine ⟨k, rfl, ?_⟩
    cases k with
    | true => exact iteT (goOn s1 ss1 h1)
    | false => exact iteF (endF s1 ss1 (.bl _) h1)
  | _ => exact False.elim h1
theorem pe_orD {m m2 : M OT} (ha : PE X a (tDX X W m)) (hb : PE X (.BoolOp .Or (b :: rest) pos) (tDX X W m2)) : PE X (.BoolOp .Or (a :: b :: rest) pos) (tDX X W (M.bind m fun t => orK t.view m2)) := by
  refine PE.imp (pe_or ha hb) fun σ H Q h => ?_
  obtain ⟨F, en, fp, ss, h⟩ := h
  refine tD_useF Stp.refl ss h fun v t H1 F1 fp1 e1 s1 _ ss1 r1 h1 => ?_
  have h1 : WP X.K X.mg W σ H F fp (orK t.view m2 e1) (FinV X.K X.mg H F fp σ Q) := h1
  generalize t.view = d at r1 h1
  cases d with
  | bl k =>
    have := bl_of r1
    subst this
    refine ⟨k, rfl, ?_⟩
    cases k with
    | true => exact iteT (endF s1 ss1 (.bl _) h1)
    | false => exact iteF (goOn s1 ss1 h1)
  | _ => exact False.elim h1
theorem pe_ifD {m : M Bool} {m1 m2 : M OT} (hc : PT X c (tDbX X W m)) (ha : PE X a (tDX X W m1)) (hb : PE X b (tDX X W m2)) : PE X (.IfExp c a b pos) (tDX X W (M.bind m fun k => (match k with
    | true => m1
    | false => m2))) := by
  refine PE.imp (pe_ifExp hc ha hb) fun σ H Q h => ?_
  obtain ⟨F, en, fp, ss, h⟩ := h
  refine tDb_use Stp.refl ss h fun b H1 F1 fp1 e1 s1 _ ss1 h1 => ?_
  cases b with
  | true => exact iteT (goOn s1 ss1 h1)
  | false => exact iteF (goOn s1 ss1 h1)
end
end Rx
end

section
/-! Rx, part 5: subscripts, slices, fields, calls. -/
namespace Rx
open PySem PySem.Spec PyProof.Rows L2
variable [Prw]

section
variable (K : PySem.W.Frag) (mg : Str → Option Value)
/-- which names are to have back what was handed on -/
inductive Bk (σ : L2.St) : List V → List (Slot × Option Nat) → Prop
  | nil : Bk σ [] []
  | cons {v : V} {o : Slot} {b : Option Nat} {vs : List V} {as : List (Slot × Option Nat)} : (∀ j, b = some j → σ[j]? = some (some v)) → Bk σ vs as → Bk σ (v :: vs) ((o, b) :: as)
structure AsPost (H F : Hp) (fp : List Addr) (σ : L2.St) (e : Ev) (vs : List V) (as : List (Slot × Option Nat)) (H' F' : Hp) (fpe fpa : List Addr) : Prop where
  st : Stp H F fp H' F' (fpa ++ fpe)
  ss : SS K mg H' F' σ e fpe
  val : EvR K mg H' F' (vs.map some) (as.map (·.1)) fpa
  dis : ∀ a ∈ fpa, a ∉ fpe
  own : ∀ a ∈ fpa, F' a = none
  bk : Bk σ vs as
def FinA (H F : Hp) (fp : List Addr) (σ : L2.St) (Q : List V → Hp → Prop) : List (Slot × Option Nat) → Ev → Prop := fun as e => ∀ vs H' F' fpe fpa, AsPost K mg H F fp σ e vs as H' F' fpe fpa → Q vs H'
def tDa (W : WX) (m : M (List (Slot × Option Nat))) : TA := fun σ H Q => ∃ F e fp, SS K mg H F σ e fp ∧ WP K mg W σ H F fp (m e) (FinA K mg H F fp σ Q)
def tArg (W : WX) (ref : Bool) (x : IE) (m : M OT) : TE := match refVar ref x with
  | some j => tVar j
  | none => tD K mg W m
/-- what a def promises: f -/
def spF (ms : List Bool) (f : Fn) : Sp := fun vs H Q E => vs.length = ms.length ∧ ∃ F as fp, Same F H ∧ EvR K mg H F (vs.map some) as fp ∧ (∀ a ∈ fp, F a = none) ∧ (match f as with
  | .bad => False
  | .ok r outs => ∀ v H' F' fpo fpv, Stp H F fp H' F' (fpv ++ fpo) → Same F' H' → EvR K mg H' F' (vs.map some) outs fpo → OTR K mg H' F' v r fpv → (∀ a ∈ fpv, a ∉ fpo) → (∀ a ∈ fpo, F' a = none) → (∀ a ∈ fpv, F' a = none) → Q v H'
  | .exn x outs => ∀ cls d H' F' fpo, Stp H F fp H' F' fpo → Same F' H' → EvR K mg H' F' (vs.map some) outs fpo → (∀ a ∈ fpo, F' a = none) → ExR K mg H' F' x cls d → E cls d H')
end

section
variable {K : PySem.W.Frag} {mg : Str → Option Value} {W : WX} {σ : L2.St} {H F H' F' H1 F1 H0 F0 : Hp} {fp fp1 fp0 fpe fpv : List Addr} {e : Ev}
theorem giveBack_ok : ∀ {vs : List V} {as : List (Slot × Option Nat)} {outs : List Slot} {fpo fpe : List Addr} {e : Ev}, Bk σ vs as → EvR K mg H F (vs.map some) outs fpo → EvR K mg H F σ e fpe → (∀ a ∈ fpo, a ∉ fpe) →
    ∃ fp', EvR K mg H F σ (giveBack as outs e) fp' ∧ (∀ a ∈ fp', a ∈ fpo ∨ a ∈ fpe)
  | [], _, _, _, fpe, _, .nil, _, r, _ => ⟨fpe, by unfold giveBack; exact r, fun _ q => .inr q⟩
  | v :: vs, _, _, _, fpe, e, .cons (o := o0) (b := b) hb bk, .cons (o := o) (fp := g) (fps := gs) s ro n, r, d => by
    cases b with
    | none =>
      obtain ⟨fp', h1, h2⟩ := giveBack_ok bk ro r fun a ha => d a (List.mem_append_right _ ha)
      exact ⟨fp', h1, fun a ha => (h2 a ha).imp (fun q => List.mem_append_right _ q) id⟩
    | some j =>
      have step : ∃ fp1, EvR K mg H F σ (e.set j o) fp1 ∧ (∀ a ∈ fp1, a ∈ g ∨ a ∈ fpe) := by
        cases s with
        | no =>
          obtain ⟨fp1, h1, h2⟩ := r.forget j
          exact ⟨fp1, h1, fun a ha => .inr (h2 a ha)⟩
        | so ot =>
          exact r.put (hb j rfl) ot fun a ha => d a (List.mem_append_left _ ha)
      obtain ⟨fp1, h1, h2⟩ := step
      obtain ⟨fp', h3, h4⟩ := giveBack_ok bk ro h1 fun a ha q => by
        rcases h2 a q with q | q
        · exact n a q ha
        · exact d a (List.mem_append_right _ ha) q
      refine ⟨fp', h3, fun a ha => ?_⟩
      rcases h4 a ha with q | q
      · exact .inl (List.mem_append_right _ q)
      · exact (h2 a q).imp (fun z => List.mem_append_left _ z) id
end

section
variable {X : Cx} {W : WX} {pos p : Pos} {a b c e : Expr} {es rest : List Expr} {xa xb xc : IE} {ma mb mc : M OT} {te : TE}
/-! ### arguments -/
theorem pa_nilA {ms : List Bool} : PA X [] (tDa X.K X.mg W (evArgs ms [])) := by
  refine PA.imp pa_nil fun σ H Q q => ?_
  obtain ⟨F, en, fp, ss, q⟩ := q
  have q : FinA X.K X.mg H F fp σ Q [] en := by cases ms <;> exact q
  exact q [] H F fp [] ⟨Stp.refl, ss, .nil, nm, nm, .nil⟩
theorem fmt_fz {K : PySem.W.Frag} {mg : Str → Option Value} {H F : Hp} {fp : List Addr} {σ : L2.St} {e : Ev} {v : V} {t : OT} {H' F' : Hp} {fpe fpv : List Addr} (p : VPost K mg H F fp σ e v t H' F' fpe fpv) :
    VPost K mg H F fp σ e v (.fz t.view) H' (frzF F' H' fpv) fpe [] := by
  obtain ⟨q1, q2, q3⟩ := p.frz
  exact ⟨q1, q2, .fz q3, nm, nm⟩
theorem pa_consA {ms : List Bool} {r : List IE} {x : IE} (ha : PE X a (tArg X.K X.mg W (ms.headD false) x (sem x).1)) (hr : PA X es (tDa X.K X.mg W (evArgs ms.tail r))) (hs : starEach (a :: es) X.env = (false, eval a X.env) :: starEach es X.env) :
    PA X (a :: es) (tDa X.K X.mg W (evArgs ms (x :: r))) := by
  refine PA.imp (pa_cons ha hr hs) fun σ H Q q => ?_
  obtain ⟨F, en, fp, ss, q⟩ := q
  have q : WP X.K X.mg W σ H F fp ((argOf (ms.headD false) x (sem x).1 en).bind fun s e1 => (evArgs ms.tail r e1).bind fun as e2 => .ok (s :: as) e2) (FinA X.K X.mg H F fp σ Q) := by
    cases ms <;> exact q
  -- what is behind the first argument
  have go : ∀ {v : V} {t : Slot} {b : Option Nat} {H1 F1 : Hp} {fpe fpv : List Addr} {e1 : Ev}, Stp H F fp H1 F1 (fpv ++ fpe) → SS X.K X.mg H1 F1 σ e1 fpe → SlR X.K X.mg H1 F1 (some v) t fpv → (∀ a ∈ fpv, ∃ o, H1 a = some o) → (∀ a ∈ fpv, a ∉ fpe) → (∀ a ∈ fpv, F1 a = none) → (∀ j, b = some j → σ[j]? = some (some v)) →
      WP X.K X.mg W σ H F fp ((evArgs ms.tail r e1).bind fun as e2 => .ok ((t, b) :: as) e2) (FinA X.K X.mg H F fp σ Q) → tDa X.K X.mg W (evArgs ms.tail r) σ H1 fun xs H2 => Q (v :: xs) H2 := fun {v t b H1 F1 fpe fpv e1} pst pss psl pth pdis pown hb h1 => by
    refine ⟨F1, e1, fpe, pss, ?_⟩
    cases hm : evArgs ms.tail r e1 with
    | bad => rw [hm] at h1; exact h1.elim
    | exn x e2 => rw [hm] at h1; exact Xc.step pst h1
    | ok as e2 =>
      rw [hm] at h1
      intro vs H2 F2 fpe2 fpa p2
      obtain ⟨k1, k2, k3⟩ := p2.st.held pth pdis pown
      have h1 : FinA X.K X.mg H F fp σ Q ((t, b) :: as) e2 := h1
      refine h1 (v :: vs) H2 F2 fpe2 (fpv ++ fpa) ⟨?_, p2.ss, .cons (psl.keep p2.st.fz k1) p2.val fun a ha q => k3 a ha (List.mem_append_left _ q), fun a ha => ?_, fun a ha => ?_, .cons hb p2.bk⟩
      · have := pst.trans p2.st.frameL
        rw [List.append_assoc]
        exact this
      · rcases List.mem_append.mp ha with ha | ha
        · exact fun q => k3 a ha (List.mem_append_right _ q)
        · exact p2.dis a ha
      · rcases List.mem_append.mp ha with ha | ha
        · exact k2 a ha
        · exact p2.own a ha
  unfold argOf at q
  unfold tArg
  cases hx : refVar (ms.headD false) x with
  | some j =>
    rw [hx] at q
    show ∃ v, _
    cases hj : en.at j with
    | none => simp only [M.bind_app, M.get, hj] at q; exact q.elim
    | some t =>
      obtain ⟨v, g, rest, h1, h2, h3, h4, h5⟩ := ss.env.take hj
      simp only [M.bind_app, M.get, hj] at q
      exact ⟨v, h1, go (fpv := []) (b := some j) Stp.refl ss .no nm nm nm (fun j' e => by cases e; exact h1) q⟩
  | none =>
    rw [hx] at q
    have q : WP X.K X.mg W σ H F fp (((sem x).1 en).bind fun t e1 => (evArgs ms.tail r e1).bind fun as e2 => .ok ((some (match ms.headD false with | true => t | false => .fz t.view), none) :: as) e2) (FinA X.K X.mg H F fp σ Q) := by
      cases h0 : (sem x).1 en with
      | bad => simp only [M.bind_app, h0] at q; exact q
      | exn x e1 => simp only [M.bind_app, h0] at q; exact q
      | ok t e1 => simp only [M.bind_app, h0] at q; exact q
    refine tD_use Stp.refl ss q fun v t H1 F1 fpe fpv e1 p h1 => ?_
    cases hm : ms.headD false with
    | true => rw [hm] at h1; exact go (b := none) p.st p.ss (.so p.val) p.val.there p.dis p.own (fun j e => nomatch e) h1
    | false =>
      rw [hm] at h1
      have p := fmt_fz p
      exact go (b := none) p.st p.ss (.so p.val) p.val.there p.dis p.own (fun j e => nomatch e) h1

theorem take_ok {K : PySem.W.Frag} {mg : Str → Option Value} {H F : Hp} {σ : L2.St} : ∀ {vs : List V} {as : List (Slot × Option Nat)} {fpa fpe : List Addr} {e : Ev}, Bk σ vs as → EvR K mg H F (vs.map some) (as.map (·.1)) fpa → EvR K mg H F σ e fpe → (∀ a ∈ fpa, a ∉ fpe) →
    takeAll as e = .bad ∨ ∃ as' e' fpa' fpe', takeAll as e = .ok as' e' ∧ EvR K mg H F (vs.map some) (as'.map (·.1)) fpa' ∧ EvR K mg H F σ e' fpe' ∧ (∀ a ∈ fpa', a ∉ fpe') ∧ (∀ a ∈ fpa', a ∈ fpa ∨ a ∈ fpe) ∧ (∀ a ∈ fpe', a ∈ fpa ∨ a ∈ fpe) ∧ Bk σ vs as'
  | [], _, _, fpe, e, .nil, .nil, r, _ => .inr ⟨[], e, [], fpe, rfl, .nil, r, nm, nm, fun _ q => .inr q, .nil⟩
  | v :: vs, _, _, fpe, e, .cons (as := as) (b := none) hb bk, .cons (o := o) (fp := g) (fps := gs) s ro n, r, d => by
    rcases take_ok bk ro r fun a ha => d a (List.mem_append_right _ ha) with h | ⟨as', e', fpa', fpe', h1, h2, h3, h4, h5, h6, h7⟩
    · left
      show (takeAll as e).bind _ = _
      rw [h]; rfl
    · right
      refine ⟨(o, none) :: as', e', g ++ fpa', fpe', ?_, .cons s h2 fun a ha q => ?_, h3, fun a ha q => ?_, fun a ha => ?_, fun a ha => ?_, .cons (fun j z => nomatch z) h7⟩
      · show (takeAll as e).bind _ = _
        rw [h1]; rfl
      · rcases h5 a q with z | z
        · exact n a ha z
        · exact d a (List.mem_append_left _ ha) z
      · rcases List.mem_append.mp ha with ha | ha
        · rcases h6 a q with z | z
          · exact n a ha z
          · exact d a (List.mem_append_left _ ha) z
        · exact h4 a ha q
      · rcases List.mem_append.mp ha with ha | ha
        · exact .inl (List.mem_append_left _ ha)
        · exact (h5 a ha).imp (fun z => List.mem_append_right _ z) id
      · exact (h6 a ha).imp (fun z => List.mem_append_right _ z) id
  | v :: vs, _, _, fpe, e, .cons (as := as) (b := some j) hb bk, .cons (o := o) (fp := g) (fps := gs) s ro n, r, d => by
    cases hj : e.at j with
    | none =>
      left
      show (takeRef j e).bind _ = _
      simp only [takeRef, hj]; rfl
    | some t =>
      obtain ⟨v', g', rest, h1, h2, h3, h4, h5⟩ := r.take hj
      have ev : v' = v := by
        have := hb j rfl
        rw [h1] at this
        injection this with this
        injection this
      subst ev
      have ow : ∀ (_ : takeRef j e = .ok (some t, some j) (e.set j none)), takeAll ((o, some j) :: as) e = .bad ∨ ∃ as' e' fpa' fpe', takeAll ((o, some j) :: as) e = .ok as' e' ∧ EvR K mg H F ((v' :: vs).map some) (as'.map (·.1)) fpa' ∧ EvR K mg H F σ e' fpe' ∧ (∀ a ∈ fpa', a ∉ fpe') ∧ (∀ a ∈ fpa', a ∈ g ++ gs ∨ a ∈ fpe) ∧ (∀ a ∈ fpe', a ∈ g ++ gs ∨ a ∈ fpe) ∧ Bk σ (v' :: vs) as' := fun ht => by
        rcases take_ok bk ro h3 (fun a ha q => d a (List.mem_append_right _ ha) ((h4 a).mpr (.inr q))) with h | ⟨as', e', fpa', fpe', k1, k2, k3, k4, k5, k6, k7⟩
        · left
          show (takeRef j e).bind _ = _
          rw [ht]
          show (takeAll as (e.set j none)).bind _ = _
          rw [h]; rfl
        · right
          refine ⟨(some t, some j) :: as', e', g' ++ fpa', fpe', ?_, .cons (.so h2) k2 fun a ha q => ?_, k3, fun a ha q => ?_, fun a ha => ?_, fun a ha => ?_, .cons (fun j' z => by cases z; exact h1) k7⟩
          · show (takeRef j e).bind _ = _
            rw [ht]
            show (takeAll as (e.set j none)).bind _ = _
            rw [k1]; rfl
          · rcases k5 a q with z | z
            · exact d a (List.mem_append_right _ z) ((h4 a).mpr (.inl ha))
            · exact h5 a ha z
          · rcases List.mem_append.mp ha with ha | ha
            · rcases k6 a q with z | z
              · exact d a (List.mem_append_right _ z) ((h4 a).mpr (.inl ha))
              · exact h5 a ha z
            · exact k4 a ha q
          · rcases List.mem_append.mp ha with ha | ha
            · exact .inr ((h4 a).mpr (.inl ha))
            · exact (k5 a ha).imp (fun z => List.mem_append_right _ z) fun z => (h4 a).mpr (.inr z)
          · exact (k6 a ha).imp (fun z => List.mem_append_right _ z) fun z => (h4 a).mpr (.inr z)
      cases t with
      | lst ts => exact ow (by simp only [takeRef, hj])
      | dic ts => exact ow (by simp only [takeRef, hj])
      | din ts => exact ow (by simp only [takeRef, hj])
      | ins c ts => exact ow (by simp only [takeRef, hj])
      | fz dd =>
        have ht : takeRef j e = .ok (some (.fz dd), none) e := by simp only [takeRef, hj]
        cases h2 with
        | fz rd =>
          rcases take_ok bk ro r fun a ha => d a (List.mem_append_right _ ha) with h | ⟨as', e', fpa', fpe', k1, k2, k3, k4, k5, k6, k7⟩
          · left
            show (takeRef j e).bind _ = _
            rw [ht]
            show (takeAll as e).bind _ = _
            rw [h]; rfl
          · right
            refine ⟨(some (.fz dd), none) :: as', e', fpa', fpe', ?_, .cons (fp := []) (fps := fpa') (.so (.fz rd)) k2 nm, k3, k4, fun a ha => ?_, fun a ha => ?_, .cons (fun j' z => nomatch z) k7⟩
            · show (takeRef j e).bind _ = _
              rw [ht]
              show (takeAll as e).bind _ = _
              rw [k1]; rfl
            · exact (k5 a ha).imp (fun z => List.mem_append_right _ z) id
            · exact (k6 a ha).imp (fun z => List.mem_append_right _ z) id
theorem AsPost.take {K : PySem.W.Frag} {mg : Str → Option Value} {W : WX} {H F : Hp} {fp : List Addr} {σ : L2.St} {e : Ev} {vs : List V} {as : List (Slot × Option Nat)} {H1 F1 : Hp} {fpe fpa : List Addr} {f : Fn} {Q : VK} (p : AsPost K mg H F fp σ e vs as H1 F1 fpe fpa) (h : WP K mg W σ H F fp (callF f as e) (FinV K mg H F fp σ Q)) :
    ∃ as' e' fpe' fpa', AsPost K mg H F fp σ e' vs as' H1 F1 fpe' fpa' ∧ WP K mg W σ H F fp (callG f as' e') (FinV K mg H F fp σ Q) := by
  have h : WP K mg W σ H F fp ((takeAll as e).bind fun as e => callG f as e) (FinV K mg H F fp σ Q) := h
  rcases take_ok p.bk p.val p.ss.env p.dis with h0 | ⟨as', e', fpa', fpe', k1, k2, k3, k4, k5, k6, k7⟩
  · rw [h0] at h; exact h.elim
  · rw [k1] at h
    refine ⟨as', e', fpe', fpa', ⟨p.st.sub fun a ha => ?_, ⟨p.ss.le, k3, fun a ha => (k6 a ha).elim (p.own a) (p.ss.own a)⟩, k2, k4, fun a ha => (k5 a ha).elim (p.own a) (p.ss.own a), k7⟩, h⟩
    rcases List.mem_append.mp ha with ha | ha
    · exact List.mem_append.mpr (k5 a ha)
    · exact List.mem_append.mpr (k6 a ha)
/-! ### calls of defs -/
theorem call_end {ms : List Bool} {f : Fn} {σ : L2.St} {H F : Hp} {fp : List Addr} {Q : VK} {vs : List V} {as : List (Slot × Option Nat)} {e1 : Ev} {H1 F1 : Hp} {fpe fpa : List Addr} (hl : as.length = ms.length)
    (p : AsPost X.K X.mg H F fp σ e1 vs as H1 F1 fpe fpa) (h : WP X.K X.mg W σ H F fp (callF f as e1) (FinV X.K X.mg H F fp σ Q)) : spF X.K X.mg ms f vs H1 Q (WE W σ) := by
  have hlen : ∀ {vs : List V} {as : List (Slot × Option Nat)}, Bk σ vs as → vs.length = as.length := fun {vs as} b => by
    induction b with
    | nil => rfl
    | cons _ _ ih => simp [ih]
  have hl0 := (hlen p.bk).trans hl
  clear hl
  obtain ⟨as, e1, fpe, fpa, p, h⟩ := p.take h
  refine ⟨hl0, F1, as.map (·.1), fpa, p.ss.le, p.val, p.own, ?_⟩
  unfold callG at h
  cases hf : f (as.map (·.1)) with
  | bad => simp only [hf] at h; exact h.elim
  | ok r outs =>
    simp only [hf] at h ⊢
    intro v H2 F2 fpo fpv st le env val dis ow1 ow2
    obtain ⟨k1, k2, k3⟩ := st.held p.ss.env.there (fun a ha q => p.dis a q ha) p.ss.own
    obtain ⟨fp', g1, g2⟩ := giveBack_ok p.bk env (p.ss.env.keep st.fz k1) fun a ha q => k3 a q (List.mem_append_right _ ha)
    have h : FinV X.K X.mg H F fp σ Q r (giveBack as outs e1) := h
    refine h v H2 F2 fp' fpv ⟨?_, ⟨le, g1, fun a ha => (g2 a ha).elim (ow1 a) (k2 a)⟩, val, fun a ha q => ?_, ow2⟩
    · refine (p.st.trans st.frame).sub fun a ha => ?_
      rcases List.mem_append.mp ha with ha | ha
      · exact List.mem_append_left _ (List.mem_append_left _ ha)
      · exact (g2 a ha).elim (fun z => List.mem_append_left _ (List.mem_append_right _ z)) fun z => List.mem_append_right _ z
    · rcases g2 a q with z | z
      · exact dis a ha z
      · exact k3 a z (List.mem_append_left _ ha)
  | exn x outs =>
    simp only [hf] at h ⊢
    intro cls d H2 F2 fpo st le env ow1 ex
    obtain ⟨k1, k2, k3⟩ := st.held p.ss.env.there (fun a ha q => p.dis a q ha) p.ss.own
    obtain ⟨fp', g1, g2⟩ := giveBack_ok p.bk env (p.ss.env.keep st.fz k1) fun a ha q => k3 a q ha
    have h : Xc X.K X.mg W σ H F fp x (giveBack as outs e1) := h
    refine h cls d H2 F2 fp' ?_ ⟨le, g1, fun a ha => (g2 a ha).elim (ow1 a) (k2 a)⟩ ex
    refine (p.st.trans st.frame).sub fun a ha => ?_
    exact (g2 a ha).elim (fun z => List.mem_append_left _ z) fun z => List.mem_append_right _ z
theorem evArgs_length : ∀ {es : List IE} {ms : List Bool} {e e' : Ev} {as : List (Slot × Option Nat)}, evArgs ms es e = .ok as e' → as.length = es.length
  | [], ms, e, e', as, h => by
    have : R.ok ([] : List (Slot × Option Nat)) e = .ok as e' := by cases ms <;> exact h
    cases this; rfl
  | x :: r, ms, e, e', as, h => by
    have h : ((argOf (ms.headD false) x (sem x).1) e).bind (fun t e1 => (evArgs ms.tail r e1).bind fun ts e2 => .ok (t :: ts) e2) = .ok as e' := by cases ms <;> exact h
    cases h1 : (argOf (ms.headD false) x (sem x).1) e with
    | bad => rw [h1] at h; cases h
    | exn => rw [h1] at h; cases h
    | ok t e1 =>
      rw [h1] at h
      simp only [R.bind] at h
      cases h2 : evArgs ms.tail r e1 with
      | bad => rw [h2] at h; cases h
      | exn => rw [h2] at h; cases h
      | ok ts1 e2 =>
        rw [h2] at h
        simp only [R.bind] at h
        cases h
        simp [evArgs_length h2]
/-- a def of the module that keeps the promise f -/
structure HasFn (P : Program) (w : World) (K : PySem.W.Frag) (mg : Str → Option Value) (base : Heap) (k : Nat) (x : Str) (ms : List Bool) (f : Fn) : Prop where
  ex : ∃ (fa : Addr) (fd : FuncData) (ps : List Str), FnOk P w K mg base (L2.CX P w) k fa fd ps (spF K mg ms f) ∧ mg x = some (.ref fa) ∧ PySem.W.keepIn K (.ref fa) = true ∧ Binds K fd ps []
theorem pe_callF {x : Str} {ms : List Bool} {f : Fn} {xs : List IE} {k j : Nat} (F : HasFn X.prog X.w X.K X.mg X.base k x ms f) (hr : Room j X.A) (hk : k ≤ j) (tk : Takes X W) (hg : Gl X x) (hdb : (x == ("__debug__" : Str)) = false)
    (hl : xs.length = ms.length) (ha : PA X (e :: es) (tDa X.K X.mg W (evArgs ms xs))) (he : starEach (e :: es) X.env = (false, eval e X.env) :: starEach es X.env) (hpl : (backTo pos (starEach es X.env)).any (·.1) = false) :
    PE X (.Call (.Name x p) (e :: es) [] pos) (tDX X W (M.bind (evArgs ms xs) fun as => callF f as)) := by
  obtain ⟨fa, fd, ps, Fk, hm, hkp, hb⟩ := F.ex
  refine PE.imp (pe_callS Fk (hr.mono hk) hg hm hkp hb (fun σ => passAt tk σ) ha hdb he hpl) fun σ H Q q => ?_
  obtain ⟨F0, en, fp, ss, q⟩ := q
  have q : WP X.K X.mg W σ H F0 fp ((evArgs ms xs en).bind fun as e1 => callF f as e1) (FinV X.K X.mg H F0 fp σ Q) := q
  refine ⟨F0, en, fp, ss, ?_⟩
  cases hm : evArgs ms xs en with
  | bad => rw [hm] at q; exact q.elim
  | exn x e1 => rw [hm] at q; exact q
  | ok as e1 =>
    rw [hm] at q
    intro vs H1 F1 fpe fpa pp
    exact call_end ((evArgs_length hm).trans hl) pp q
theorem pe_callF0 {x : Str} {ms : List Bool} {f : Fn} {k j : Nat} (F : HasFn X.prog X.w X.K X.mg X.base k x ms f) (hr : Room j X.A) (hk : k ≤ j) (tk : Takes X W) (hg : Gl X x) (hdb : (x == ("__debug__" : Str)) = false)
    (hl : 0 = ms.length) : PE X (.Call (.Name x p) [] [] pos) (tDX X W (M.bind (evArgs ms []) fun as => callF f as)) := by
  obtain ⟨fa, fd, ps, Fk, hm, hkp, hb⟩ := F.ex
  have base : PE X (.Call (.Name x p) [] [] pos) (fun σ H Q => spF X.K X.mg ms f [] H Q (WE W σ)) := by
    refine ⟨fun pins s σ H Q I h => ?_⟩
    refine wpAny_Call_Name_kw (ld_glob I hg hm ?_ hdb)
    exact PySem.W.callWith_K0 I.kIn hkp (run_fnS (us := []) (E := WE W) Fk (hr.mono hk) hb (passAt tk σ) I .nil h)
  refine PE.imp base fun σ H Q q => ?_
  obtain ⟨F0, en, fp, ss, q⟩ := q
  have q : WP X.K X.mg W σ H F0 fp (callF f [] en) (FinV X.K X.mg H F0 fp σ Q) := by cases ms <;> exact q
  exact call_end (as := []) hl ⟨Stp.refl, ss, .nil, nm, nm, .nil⟩ q
end
end Rx
end

section
/-! Rx, part 6: subscripts, slices, fields, built-ins, comprehensions. -/
namespace Rx
open PySem PySem.Spec PyProof.Rows L2
variable [Prw]

section
variable {X : Cx} {W : WX} {pos p p2 : Pos} {a b c e : Expr} {es rest : List Expr} {xa xb xc : IE} {ma mb mc : M OT} {te : TE}
theorem uop_end {K : PySem.W.Frag} {mg : Str → Option Value} {σ : L2.St} {H F H0 F0 : Hp} {fp fp0 : List Addr} {en : Ev} {o : Option D} {Q : VK} (s : Stp H0 F0 fp0 H F fp) (ss : SS K mg H F σ en fp)
    (h : WP K mg W σ H0 F0 fp0 (M.bind (M.lift o) (fun d => M.pure (OT.fz d)) en) (FinV K mg H0 F0 fp0 σ Q)) : ∃ d, o = some d ∧ FinP K mg H F (.fz d) Q := by
  cases o with
  | none => exact h.elim
  | some k => exact ⟨k, rfl, finP_of ss (FinV.step s h)⟩
abbrev fz1 (g : D → Option D) : D → Option OT := fun a => (g a).map .fz
abbrev fz2 (g : D → D → Option D) : D → D → Option OT := fun a b => (g a b).map .fz
theorem pe_uopD {op : UnaryOp} {g : D → Option D} (ho : UnR X (unaryOp op) (R1D X.K X.mg (fz1 g))) (ha : PE X a (tOX X W xa ma)) : PE X (.UnaryOp op a pos) (tDX X W (uopM g xa ma)) := by
  refine PE.imp (pe_un ho ha) fun σ H Q h => ?_
  obtain ⟨F, en, fp, ss, h⟩ := h
  refine opd_use Stp.refl ss h fun v H1 F1 fp1 r e1 s1 _ ss1 o1 h1 => ?_
  obtain ⟨d, pd, h2⟩ := fin_use ss1 o1 h1
  obtain ⟨d2, hd, hq⟩ := uop_end s1 ss1 h2
  exact ⟨F1, d, _, ss1.le, pd, by unfold fz1; rw [hd]; rfl, hq⟩
theorem pe_ixD (hr : IxR X (R2D X.K X.mg (fz2 ixK))) (ha : PE X a (tOX X W xa ma)) (hb : PE X b (tOX X W xb mb)) (hs : PlainIx b) :
    PE X (.Subscript a b pos) (tDX X W (op2M xa xb ma mb fun x y _ => M.bind (M.lift (ixK x y)) fun d => M.pure (.fz d))) := by
  refine PE.imp (pe_ix hr ha hb hs) fun σ H Q h => ?_
  obtain ⟨F, en, fp, ss, h⟩ := h
  refine op2_use Stp.refl ss h fun v w H2 F2 fp2 e2 x y rb s2 ss2 px py _ h2 => ?_
  obtain ⟨d2, hd, hq⟩ := uop_end s2 ss2 h2
  exact ⟨F2, x, y, _, ss2.le, px, py, by unfold fz2; rw [hd]; rfl, hq⟩
/-- an optional part of a slice -/
def tOp_ (K : PySem.W.Frag) (mg : Str → Option Value) (W : WX) (m : M (Option Int)) : TO := fun σ H Q => ∃ F e fp, SS K mg H F σ e fp ∧ WP K mg W σ H F fp (m e) (fun o e1 => ∀ H' F' fpe, Stp H F fp H' F' fpe → SS K mg H' F' σ e1 fpe → Q o H')
theorem PO.imp {X : Cx} {o : Option Expr} {t t' : TO} (h : PO X o t) (f : ∀ σ H Q, t' σ H Q → t σ H Q) : PO X o t' := ⟨fun pins s σ H Q I q => h.run pins s σ H Q I (f σ H Q q)⟩
theorem po_noneD : PO X none (tOp_ X.K X.mg W (evOpt none)) := PO.imp po_none fun σ H Q h => by
  obtain ⟨F, en, fp, ss, h⟩ := h
  exact h H F fp Stp.refl ss
theorem po_someD {x : IE} (h : PE X e (tDX X W (sem x).1)) : PO X (some e) (tOp_ X.K X.mg W (evOpt (some x))) := PO.imp (po_some h) fun σ H Q h => by
  obtain ⟨F, en, fp, ss, h⟩ := h
  have h : WP X.K X.mg W σ H F fp (((sem x).1 en).bind fun t e1 => intK t.view e1) (fun o e1 => ∀ H' F' fpe, Stp H F fp H' F' fpe → SS X.K X.mg H' F' σ e1 fpe → Q o H') := h
  refine tD_useF Stp.refl ss h fun v t H1 F1 fp1 e1 s1 _ ss1 r1 h1 => ?_
  have h1 : WP X.K X.mg W σ H F fp (intK t.view e1) (fun o e1 => ∀ H' F' fpe, Stp H F fp H' F' fpe → SS X.K X.mg H' F' σ e1 fpe → Q o H') := h1
  generalize t.view = d at r1 h1
  cases d with
  | int i =>
    cases r1
    exact ⟨i, rfl, h1 H1 F1 fp1 s1 ss1⟩
  | _ => exact False.elim h1
def RsD (K : PySem.W.Frag) (mg : Str → Option Value) (g : D → Option Int → Option Int → Option OT) : V → Option Int → Option Int → Hp → VK → Prop := fun x lo hi H Q => ∃ F d t, Same F H ∧ PR K mg H F x d ∧ g d lo hi = some t ∧ FinP K mg H F t Q
theorem pe_slD {lo hi : Option Expr} {xl xh : Option IE} (hr : L2.SlR X (RsD X.K X.mg slD)) (ha : PE X a (tOX X W xa ma)) (hl : PO X lo (tOp_ X.K X.mg W (evOpt xl))) (hh : PO X hi (tOp_ X.K X.mg W (evOpt xh))) :
    PE X (.Subscript a (.Slice lo hi none p2) pos) (tDX X W (M.bind (opd xa ma) fun ra => M.bind (evOpt xl) fun l => M.bind (evOpt xh) fun h => M.bind (fin xa ra) fun x => M.lift (slD x l h))) := by
  refine PE.imp (pe_slice hr ha hl hh) fun σ H Q h => ?_
  obtain ⟨F, en, fp, ss, h⟩ := h
  refine opd_use Stp.refl ss h fun v H1 F1 fp1 r e1 s1 _ ss1 o1 h1 => ?_
  -- the parts
  have part : ∀ {β : Type} {x : Option IE} {f : Option Int → Ev → R β} {k : β → Ev → Prop} {H1 F1 : Hp} {fp1 : List Addr} {e1 : Ev} {cont : Option Int → Hp → Prop}, Stp H F fp H1 F1 fp1 → SS X.K X.mg H1 F1 σ e1 fp1 → WP X.K X.mg W σ H F fp ((evOpt x e1).bind f) k →
      (∀ o H2 F2 fp2 e2, Stp H F fp H2 F2 fp2 → Same F1 F2 → SS X.K X.mg H2 F2 σ e2 fp2 → WP X.K X.mg W σ H F fp (f o e2) k → cont o H2) → tOp_ X.K X.mg W (evOpt x) σ H1 cont := fun {β x f k H1 F1 fp1 e1 cont} s1 ss1 h c => by
    refine ⟨F1, e1, fp1, ss1, ?_⟩
    cases hm : evOpt x e1 with
    | bad => rw [hm] at h; exact h.elim
    | exn x e1 => rw [hm] at h; exact Xc.step (g := []) s1 h
    | ok o e2 => rw [hm] at h; exact fun H2 F2 fp2 st s2 => c o H2 F2 fp2 e2 (s1.trans st) st.fz s2 h
  refine part s1 ss1 h1 fun l H2 F2 fp2 e2 s2 sf2 ss2 h2 => part s2 ss2 h2 fun hh H3 F3 fp3 e3 s3 sf3 ss3 h3 => ?_
  obtain ⟨d, pd, h4⟩ := fin_use ss3 ((o1.mono sf2).mono sf3) h3
  obtain ⟨t, ht, hq⟩ := lift_end s3 ss3 h4
  exact ⟨F3, d, t, ss3.le, pd, ht, hq⟩

/-! ### built-ins by name -/
def tOps (K : PySem.W.Frag) (mg : Str → Option Value) (W : WX) (xs : List IE) : TA := fun σ H Q => ∃ F e fp, SS K mg H F σ e fp ∧ WP K mg W σ H F fp (evOps xs e) (fun rs e1 => ∀ vs H' F' fpe, Stp H F fp H' F' fpe → SS K mg H' F' σ e1 fpe → (∀ H2 F2 fp2 e2 , Same F' F2 → SS K mg H2 F2 σ e2 fp2 → ∀ ds, fins xs rs e2 = .ok ds e2 → PRs K mg H2 F2 vs ds) → Q vs H')
theorem fin_state {x : IE} {r : Option D} {en : Ev} : fin x r en = .bad ∨ ∃ d, fin x r en = .ok d en := by
  unfold fin
  cases x.isVar with
  | some j =>
    simp only [M.bind_app, M.get]
    cases en.at j with
    | none => exact .inl rfl
    | some t =>
      simp only [R.bind]
      cases t.flat with
      | none => exact .inl rfl
      | some d => exact .inr ⟨d, rfl⟩
  | none =>
    cases r with
    | none => exact .inl rfl
    | some d => exact .inr ⟨d, rfl⟩
theorem fins_state : ∀ {xs : List IE} {rs : List (Option D)} {en : Ev}, fins xs rs en = .bad ∨ ∃ ds, fins xs rs en = .ok ds en
  | [], rs, en => .inr ⟨[], by cases rs <;> rfl⟩
  | x :: xs, [], en => .inr ⟨[], rfl⟩
  | x :: xs, r :: rs, en => by
    show ((fin x r en).bind fun d e1 => (fins xs rs e1).bind fun ds e2 => .ok (d :: ds) e2) = _ ∨ ∃ ds, ((fin x r en).bind fun d e1 => (fins xs rs e1).bind fun ds e2 => .ok (d :: ds) e2) = _
    rcases fin_state (x := x) (r := r) (en := en) with h | ⟨d, h⟩
    · rw [h]; exact .inl rfl
    · rw [h]
      simp only [R.bind]
      rcases fins_state (xs := xs) (rs := rs) (en := en) with h2 | ⟨ds, h2⟩
      · rw [h2]; exact .inl rfl
      · rw [h2]; exact .inr ⟨_, rfl⟩
theorem pa_nilO : PA X [] (tOps X.K X.mg W []) := PA.imp pa_nil fun σ H Q q => by
  obtain ⟨F, en, fp, ss, q⟩ := q
  refine q [] H F fp Stp.refl ss fun H2 F2 fp2 e2 _ _ ds h => ?_
  have : R.ok ([] : List D) e2 = .ok ds e2 := h
  cases this; exact .nil
theorem pa_consO {x : IE} {r : List IE} (ha : PE X a (tOX X W x (sem x).1)) (hr : PA X es (tOps X.K X.mg W r)) (hs : starEach (a :: es) X.env = (false, eval a X.env) :: starEach es X.env) :
    PA X (a :: es) (tOps X.K X.mg W (x :: r)) := by
  refine PA.imp (pa_cons ha hr hs) fun σ H Q q => ?_
  obtain ⟨F, en, fp, ss, q⟩ := q
  refine opd_use (f := fun t e1 => (evOps r e1).bind fun ts e2 => .ok (t :: ts) e2) Stp.refl ss q fun v H1 F1 fp1 ro e1 s1 _ ss1 o1 h1 => ?_
  refine ⟨F1, e1, fp1, ss1, ?_⟩
  cases hm : evOps r e1 with
  | bad => rw [hm] at h1; exact h1.elim
  | exn x e2 => rw [hm] at h1; exact Xc.step (g := []) s1 h1
  | ok rs e2 =>
    rw [hm] at h1
    intro vs H2 F2 fpe st ss2 hv
    refine h1 (v :: vs) H2 F2 fpe (s1.trans st) ss2 fun H3 F3 fp3 e3 sf3 ss3 ds hf => ?_
    have hf : ((fin x ro e3).bind fun d e4 => (fins r rs e4).bind fun ds e5 => .ok (d :: ds) e5) = .ok ds e3 := hf
    have o3 : OpH X.K X.mg F3 σ x ro v := (o1.mono st.fz).mono sf3
    rcases fin_state (x := x) (r := ro) (en := e3) with h | ⟨d, h⟩
    · rw [h] at hf; cases hf
    · obtain ⟨d', pd, h5⟩ := fin_use (W := W) (H0 := H) (F0 := F) (fp0 := fp) (f := fun d e => R.ok d e) (k := fun d' _ => d' = d) ss3 o3 (by rw [h]; exact rfl)
      have e5 : d' = d := h5
      subst e5
      rw [h] at hf
      simp only [R.bind] at hf
      rcases fins_state (xs := r) (rs := rs) (en := e3) with h6 | ⟨ds', h6⟩
      · rw [h6] at hf; cases hf
      · rw [h6] at hf
        simp only [R.bind] at hf
        cases hf
        exact .cons pd (hv H3 F3 fp3 e3 sf3 ss3 ds' h6)
/-- a built-in under its name that does g -/
def HasBi (X : Cx) (x : Str) (g : List D → Option OT) : Prop :=
  X.mg x = none ∧ x ≠ "__name__" ∧ ((∃ id, bootBuiltins x = some (.builtin id) ∧ CallR X (.builtin id) (RcD X.K X.mg g)) ∨ ∃ T, bootBuiltins x = some (.type T) ∧ CallR X (.type T) (RcD X.K X.mg g))
theorem pe_biD {x : Str} {g : List D → Option OT} {xs : List IE} (hb : HasBi X x g) (hg : Gl X x) (hdb : (x == ("__debug__" : Str)) = false) (ha : PA X (e :: es) (tOps X.K X.mg W xs))
    (he : starEach (e :: es) X.env = (false, eval e X.env) :: starEach es X.env) (hpl : (backTo pos (starEach es X.env)).any (·.1) = false) :
    PE X (.Call (.Name x p) (e :: es) [] pos) (tDX X W (M.bind (evOps xs) fun rs => M.bind (fins xs rs) fun ds => M.lift (g ds))) := by
  obtain ⟨h0, hn, hc⟩ := hb
  have base : PE X (.Call (.Name x p) (e :: es) [] pos) (tCB (RcD X.K X.mg g) (tOps X.K X.mg W xs)) := by
    rcases hc with ⟨id, h1, h2⟩ | ⟨T, h1, h2⟩
    · exact pe_callB h2 hg h0 h1 ha hn hdb he hpl
    · exact pe_callTy h2 hg h0 h1 ha hn hdb he hpl
  refine PE.imp base fun σ H Q q => ?_
  obtain ⟨F, en, fp, ss, q⟩ := q
  have q : WP X.K X.mg W σ H F fp ((evOps xs en).bind fun rs e1 => (fins xs rs e1).bind fun ds e2 => M.lift (g ds) e2) (FinV X.K X.mg H F fp σ Q) := q
  refine ⟨F, en, fp, ss, ?_⟩
  cases hm : evOps xs en with
  | bad => rw [hm] at q; exact q.elim
  | exn x e1 => rw [hm] at q; exact q
  | ok rs e1 =>
    rw [hm] at q
    intro vs H1 F1 fpe st ss1 hv
    have q : WP X.K X.mg W σ H F fp ((fins xs rs e1).bind fun ds e2 => M.lift (g ds) e2) (FinV X.K X.mg H F fp σ Q) := q
    rcases fins_state (xs := xs) (rs := rs) (en := e1) with h | ⟨ds, h⟩
    · rw [h] at q; exact q.elim
    · rw [h] at q
      obtain ⟨t, ht, hq⟩ := lift_end st ss1 q
      exact ⟨F1, ds, t, ss1.le, hv H1 F1 fpe e1 (Same.refl _) ss1 ds h, ht, hq⟩
end
end Rx
end

section
/-! Rx, part 7: targets, what a for walks, comprehensions. -/
namespace Rx
open PySem PySem.Spec PyProof.Rows L2
variable [Prw]

/-! ### targets -/
def gSq (K : PySem.W.Frag) (n : Nat) (t : TGs) : TG := fun v σ H Q => gTup K n t v σ H Q ∨ gLst K n t v σ H Q
theorem pg_sq {X : Cx} {es : List Expr} {k : Nat} {t : TGs} {n : Nat} {pos : Pos} (hc : X.calm = true) (h : PGs X es t) (hn : (assignEach es X.env).length = n) (hst : (assignEach es X.env).findIdx? (·.1) = none) : PG X (.Tuple es k pos) (gSq X.K n t) :=
  ⟨fun pins s σ H v u Q I r hw => hw.elim ((pg_tup hc h hn hst).run pins s σ H v u Q I r) ((pg_lst hc h hn hst).run pins s σ H v u Q I r)⟩
mutual
def gOf (K : PySem.W.Frag) : TGt → TG
  | .nm j => gName j
  | .tp ts => gSq K ts.length (gsOf K ts)
def gsOf (K : PySem.W.Frag) : List TGt → TGs
  | [] => gNil
  | t :: ts => gCons (gOf K t) (gsOf K ts)
end
/-! the slots that a target stores -/
mutual
def TGt.has : TGt → List Nat
  | .nm j => [j]
  | .tp ts => TGt.hass ts
def TGt.hass : List TGt → List Nat
  | [] => []
  | t :: ts => TGt.has t ++ TGt.hass ts
end
/-- slots that stay as they are -/
def Pr (P : Nat → Bool) (σ σ' : L2.St) : Prop := ∀ i, P i = true → σ'[i]? = σ[i]?
theorem Pr.refl {P : Nat → Bool} {σ : L2.St} : Pr P σ σ := fun _ _ => rfl
theorem Pr.trans {P : Nat → Bool} {σ σ1 σ2 : L2.St} (a : Pr P σ σ1) (b : Pr P σ1 σ2) : Pr P σ σ2 := fun i h => (b i h).trans (a i h)
theorem Pr.set {P : Nat → Bool} {σ : L2.St} {j : Nat} {v : Option V} (h : P j = false) : Pr P σ (σ.set j v) := fun i hi => by
  have : j ≠ i := fun z => by rw [z, hi] at h; cases h
  rw [List.getElem?_set_ne this]
section
variable {K : PySem.W.Frag} {mg : Str → Option Value} {W : WX} {H F H' F' H1 F1 H0 F0 : Hp} {fp fp1 fp0 fpe fpv : List Addr}
theorem SS.set {σ : L2.St} {e : Ev} {j : Nat} {v : V} {d : D} (ss : SS K mg H F σ e fp) (r : DR K mg F v d) : ∃ fp', SS K mg H F (σ.set j (some v)) (e.set j (some (.fz d))) fp' ∧ (∀ a ∈ fp', a ∈ fp) := by
  obtain ⟨fp', h1, h2⟩ := EvR.set (g := []) j ss.env (.fz r) nm
  have h3 : ∀ a ∈ fp', a ∈ fp := fun a ha => (h2 a ha).elim (fun z => nomatch z) id
  exact ⟨fp', ⟨ss.le, h1, fun a ha => ss.own a (h3 a ha)⟩, h3⟩
theorem tup_of {v : V} {ds : List D} (h : DR K mg F v (.tup ds)) : ∃ a vs, v = .ref a ∧ SqT K F a vs ∧ DRs K mg F vs ds ∧ vs.length ≤ sizeLine := by
  cases h with
  | tup h hz r => exact ⟨_, _, rfl, h, r, hz⟩
mutual
theorem bindT_ok {P : Nat → Bool} : ∀ (tg : TGt) {v : V} {d : D} {e e1 : Ev} {σ : L2.St} {fp : List Addr} {cont : L2.St → Hp → Prop}, (tg.has.all fun j => !P j) = true → DR K mg F v d → bindT tg d e = some e1 → SS K mg H F σ e fp →
    (∀ σ' fp', SS K mg H F σ' e1 fp' → (∀ a ∈ fp', a ∈ fp) → Pr P σ σ' → σ'.length = σ.length → cont σ' H) → gOf K tg v σ H cont
  | .nm j, v, d, e, e1, σ, fp, cont, hp, r, hb, ss, c => by
    cases hb
    obtain ⟨fp', h1, h2⟩ := ss.set (j := j) r
    exact c _ fp' h1 h2 (Pr.set (by simpa [TGt.has] using hp)) (by simp)
  | .tp ts, v, d, e, e1, σ, fp, cont, hp, r, hb, ss, c => by
    cases d with
    | tup ds =>
      obtain ⟨a, vs, rfl, h1, h2, h3⟩ := tup_of r
      have hb : bindTs ts ds e = some e1 := hb
      have hl : vs.length = ts.length := by
        rw [h2.length]
        exact (bindTs_length ts ds e e1 hb).symm
      exact .inl ⟨a, vs, rfl, Same.seqT ss.le h1, hl, bindTs_ok ts hp h2 hb ss c⟩
    | lst ds =>
      cases r with
      | lst h1 hz h2 =>
        have hb : bindTs ts ds e = some e1 := hb
        refine .inr ⟨_, _, rfl, SqL.of (ss.le _ _ h1), ?_, bindTs_ok ts hp h2 hb ss c⟩
        rw [h2.length]
        exact (bindTs_length ts ds e e1 hb).symm
    | _ => cases hb
theorem bindTs_ok {P : Nat → Bool} : ∀ (ts : List TGt) {vs : List V} {ds : List D} {e e1 : Ev} {σ : L2.St} {fp : List Addr} {cont : L2.St → Hp → Prop}, ((TGt.hass ts).all fun j => !P j) = true → DRs K mg F vs ds → bindTs ts ds e = some e1 → SS K mg H F σ e fp →
    (∀ σ' fp', SS K mg H F σ' e1 fp' → (∀ a ∈ fp', a ∈ fp) → Pr P σ σ' → σ'.length = σ.length → cont σ' H) → gsOf K ts vs σ H cont
  | [], vs, ds, e, e1, σ, fp, cont, hp, r, hb, ss, c => by
    cases r with
    | nil =>
      cases hb
      exact ⟨rfl, c σ fp ss (fun _ q => q) Pr.refl rfl⟩
    | cons => cases hb
  | t :: ts, vs, ds, e, e1, σ, fp, cont, hp, r, hb, ss, c => by
    cases r with
    | nil => cases hb
    | cons r rs =>
      rename_i v d vs ds
      have hb : (bindT t d e).bind (fun e' => bindTs ts ds e') = some e1 := hb
      cases h0 : bindT t d e with
      | none => rw [h0] at hb; cases hb
      | some e2 =>
        rw [h0] at hb
        have hb : bindTs ts ds e2 = some e1 := hb
        have hp2 : (t.has.all fun j => !P j) = true ∧ ((TGt.hass ts).all fun j => !P j) = true := by
          have : ((t.has ++ TGt.hass ts).all fun j => !P j) = true := hp
          rw [List.all_append, Bool.and_eq_true] at this
          exact this
        refine ⟨v, vs, rfl, bindT_ok t hp2.1 r h0 ss fun σ2 fp2 ss2 s2 p2 l2 => ?_⟩
        exact bindTs_ok ts hp2.2 rs hb ss2 fun σ3 fp3 ss3 s3 p3 l3 => c σ3 fp3 ss3 (fun a ha => s2 a (s3 a ha)) (p2.trans p3) (l3.trans l2)
theorem bindTs_length : ∀ (ts : List TGt) (ds : List D) (e e1 : Ev), bindTs ts ds e = some e1 → ts.length = ds.length
  | [], [], _, _, _ => rfl
  | [], _ :: _, _, _, h => by cases h
  | _ :: _, [], _, _, h => by cases h
  | t :: ts, d :: ds, e, e1, h => by
    have h : (bindT t d e).bind (fun e' => bindTs ts ds e') = some e1 := h
    cases h0 : bindT t d e with
    | none => rw [h0] at h; cases h
    | some e2 =>
      rw [h0] at h
      simp [bindTs_length ts ds e2 e1 h]
end
/-! ### what is walked -/
/-- it goes through the data xs, while F stands -/
structure DWalk (K : PySem.W.Frag) (mg : Str → Option Value) (J : It) (F : Hp) (xs : List D) : Prop where
  few : xs.length ≤ sizeLine
  goes : ∀ i H, Same F H → i < xs.length → J.go i H
  stops : ∀ H, Same F H → J.stop xs.length H
  yields : ∀ i H x H' F2, Same F F2 → Same F2 H → i < xs.length → J.yld i H x H' → ∃ d F3, xs[i]? = some d ∧ Stp H F2 [] H' F3 [] ∧ Same F3 H' ∧ DR K mg F3 x d
theorem DWalk.mono {J : It} {xs : List D} (w : DWalk K mg J F xs) (s : Same F F') : DWalk K mg J F' xs :=
  ⟨w.few, fun i H h => w.goes i H (s.trans h), fun H h => w.stops H (s.trans h), fun i H x H' F2 h => w.yields i H x H' F2 (s.trans h)⟩
theorem DRs.get : ∀ {vs : List V} {ds : List D} {i : Nat} {v : V}, DRs K mg F vs ds → vs[i]? = some v → ∃ d, ds[i]? = some d ∧ DR K mg F v d
  | _, _, _, _, .nil, h => by simp at h
  | _, _, 0, _, .cons r _, h => by simp at h; subst h; exact ⟨_, rfl, r⟩
  | _, _, i + 1, _, .cons _ r, h => by
    obtain ⟨d, h1, h2⟩ := DRs.get (i := i) r (by simpa using h)
    exact ⟨d, by simpa using h1, h2⟩
theorem DRs.get' : ∀ {vs : List V} {ds : List D} {i : Nat} {d : D}, DRs K mg F vs ds → ds[i]? = some d → ∃ v, vs[i]? = some v ∧ DR K mg F v d
  | _, _, _, _, .nil, h => by simp at h
  | _, _, 0, _, .cons r _, h => by simp at h; subst h; exact ⟨_, rfl, r⟩
  | _, _, i + 1, _, .cons _ r, h => by
    obtain ⟨d, h1, h2⟩ := DRs.get' (i := i) r (by simpa using h)
    exact ⟨d, by simpa using h1, h2⟩
theorem dw_list {a : Addr} {vs : List V} {ds : List D} (hz : vs.length ≤ sizeLine) (h : SqL K F a vs) (r : DRs K mg F vs ds) : DWalk K mg (Itl K a) F ds := by
  have hl := r.length
  refine ⟨by omega, fun i H s hi => walk_list.goes i H (by omega) (s.seq h), fun H s => by rw [← hl]; exact walk_list.stops H (s.seq h), fun i H x H' F2 s1 s2 hi y => ?_⟩
  obtain ⟨e, hx⟩ := walk_list.yields i H x H' (by omega) (s2.seq (s1.seq h)) y
  subst e
  obtain ⟨d, h1, h2⟩ := r.get hx
  exact ⟨d, F2, h1, Stp.refl, s2, h2.mono s1⟩
theorem dw_tup {a : Addr} {vs : List V} {ds : List D} (hz : vs.length ≤ sizeLine) (h : SqT K F a vs) (r : DRs K mg F vs ds) : DWalk K mg (Itt K a) F ds := by
  have hl := r.length
  refine ⟨by omega, fun i H s hi => walk_tup.goes i H (by omega) (Same.seqT s h), fun H s => by rw [← hl]; exact walk_tup.stops H (Same.seqT s h), fun i H x H' F2 s1 s2 hi y => ?_⟩
  obtain ⟨e, hx⟩ := walk_tup.yields i H x H' (by omega) (Same.seqT s2 (Same.seqT s1 h)) y
  subst e
  obtain ⟨d, h1, h2⟩ := r.get hx
  exact ⟨d, F2, h1, Stp.refl, s2, h2.mono s1⟩
theorem dw_str {s : List Nat} (hl : s.length ≤ sizeLine) (hc : ∀ c ∈ s, c < 0x110000) : DWalk K mg (Its (strOf s)) F (s.map fun c => .str [c]) := by
  have hn : (strOf s).cps.size = s.length := by simp [strOf]
  refine ⟨by simpa using hl, fun i H _ hi => walk_str.goes i H (by rw [hn]; simpa using hi) trivial, fun H _ => by rw [List.length_map, ← hn]; exact walk_str.stops H trivial, fun i H x H' F2 s1 s2 hi y => ?_⟩
  have hi : i < s.length := by simpa using hi
  obtain ⟨e, c, hc1, hx⟩ := walk_str.yields i H x H' (by rw [hn]; exact hi) trivial y
  subst e
  subst hx
  have hc2 : s[i]? = some c := by simpa [strOf] using hc1
  refine ⟨.str [c], F2, by rw [List.getElem?_map, hc2]; rfl, Stp.refl, s2, ?_⟩
  have : (⟨#[c]⟩ : Str) = strOf [c] := rfl
  rw [this]
  exact .str (by simp [sizeLine_eq]) fun z hz => by
    have : z = c := by simpa using hz
    rw [this]; exact hc c (List.mem_of_getElem? hc2)
theorem dw_rng {lo : Int} {n : Nat} (hz : n ≤ sizeLine) : DWalk K mg (Itr lo n) F (rngD lo n) := by
  have hn : (rngD lo n).length = n := by simp [rngD]
  refine ⟨by omega, fun i H _ hi => walk_range.goes i H (by omega) trivial, fun H _ => by rw [hn]; exact walk_range.stops H trivial, fun i H x H' F2 s1 s2 hi y => ?_⟩
  obtain ⟨e, hx⟩ := walk_range.yields i H x H' (by omega) trivial y
  subst e
  subst hx
  refine ⟨.int (lo + i), F2, ?_, Stp.refl, s2, .int _⟩
  have : i < n := by omega
  simp [rngD, this]
/-- a new pair -/
theorem pair_new {H F2 : Hp} {T : Addr} {x y : V} {a b : D} (s : Same F2 H) (n : H T = none) (rx : DR K mg F2 x a) (ry : DR K mg F2 y b) :
    Stp H F2 [] (upd H T (.tup [x, y])) (upd F2 T (.tup [x, y])) [] ∧ Same (upd F2 T (.tup [x, y])) (upd H T (.tup [x, y])) ∧ DR K mg (upd F2 T (.tup [x, y])) (.ref T) (.tup [a, b]) := by
  have st : Stp H F2 [] (upd H T (.tup [x, y])) (upd F2 T (.tup [x, y])) [] := Stp.newF n s
  exact ⟨st, same_upd2 s, .tup (SqT.of upd_same) (by show 2 ≤ sizeLine; decide) (.cons (rx.mono st.fz) (.cons (ry.mono st.fz) .nil))⟩
theorem enumD_get : ∀ (xs : List D) (n i : Nat) {x : D}, xs[i]? = some x → (enumD n xs)[i]? = some (.tup [intD (n + i), x])
  | [], _, _, _, h => by simp at h
  | y :: ys, n, 0, x, h => by simp at h; subst h; rfl
  | y :: ys, n, i + 1, x, h => by
    have := enumD_get ys (n + 1) i (by simpa using h)
    show (enumD (n + 1) ys)[i]? = _
    rw [this, show n + 1 + i = n + (i + 1) by omega]
theorem enumD_length : ∀ (xs : List D) (n : Nat), (enumD n xs).length = xs.length
  | [], _ => rfl
  | y :: ys, n => by simp [enumD, enumD_length ys (n + 1)]
theorem dw_enum {a : Addr} {vs : List V} {ds : List D} (hz : vs.length ≤ sizeLine) (h : SqL K F a vs) (r : DRs K mg F vs ds) : DWalk K mg (Ite K a) F (enumD 0 ds) := by
  have hl := r.length
  have hn := enumD_length ds 0
  refine ⟨by omega, fun i H s hi => walk_enum.goes i H (by omega) (s.seq h), fun H s => by rw [hn, ← hl]; exact walk_enum.stops H (s.seq h), fun i H x H' F2 s1 s2 hi y => ?_⟩
  obtain ⟨T, x1, y1, rfl, nT, rfl, f1, f2⟩ := walk_enum.yields i H x H' (by omega) (s2.seq (s1.seq h)) y
  have e1 : x1 = .int (i : Nat) := (Option.some.inj f1).symm
  subst e1
  obtain ⟨d, h1, h2⟩ := r.get f2
  obtain ⟨p1, p2, p3⟩ := pair_new (a := .int (i : Nat)) (b := d) s2 nT (.int _) (h2.mono s1)
  refine ⟨.tup [intD i, d], _, ?_, p1, p2, p3⟩
  have := enumD_get ds 0 i h1
  rw [this, show 0 + i = i by omega]
theorem zipD_get : ∀ (xs ys : List D) (i : Nat) {x y : D}, xs[i]? = some x → ys[i]? = some y → (zipD xs ys)[i]? = some (.tup [x, y])
  | [], _, _, _, _, h, _ => by simp at h
  | _ :: _, [], _, _, _, _, h => by simp at h
  | a :: as, b :: bs, 0, x, y, h, h2 => by simp at h h2; subst h h2; rfl
  | a :: as, b :: bs, i + 1, x, y, h, h2 => by
    show (zipD as bs)[i]? = _
    exact zipD_get as bs i (by simpa using h) (by simpa using h2)
theorem zipD_length : ∀ (xs ys : List D), (zipD xs ys).length = min xs.length ys.length
  | [], _ => by simp [zipD]
  | _ :: _, [] => by simp [zipD]
  | a :: as, b :: bs => by simp [zipD, zipD_length as bs, Nat.add_min_add_right]
theorem dw_zip {a b : Addr} {vs ws : List V} {ds es : List D} (hz : vs.length ≤ sizeLine) (h : SqL K F a vs) (r : DRs K mg F vs ds) (h2 : SqL K F b ws) (r2 : DRs K mg F ws es) : DWalk K mg (Itz K a b) F (zipD ds es) := by
  have hl := r.length
  have hl2 := r2.length
  have hn := zipD_length ds es
  have wz := walk_zip (K := K) (a := a) (b := b) (xs := vs) (ys := ws) (n := (zipD ds es).length) (by omega)
  refine ⟨by omega, fun i H s hi => wz.goes i H hi ⟨s.seq h, s.seq h2⟩, fun H s => wz.stops H ⟨s.seq h, s.seq h2⟩, fun i H x H' F2 s1 s2 hi y => ?_⟩
  obtain ⟨T, x1, y1, rfl, nT, rfl, f1, f2⟩ := wz.yields i H x H' hi ⟨s2.seq (s1.seq h), s2.seq (s1.seq h2)⟩ y
  obtain ⟨d, k1, k2⟩ := r.get f1
  obtain ⟨d', k3, k4⟩ := r2.get f2
  obtain ⟨p1, p2, p3⟩ := pair_new s2 nT (k2.mono s1) (k4.mono s1)
  exact ⟨_, _, zipD_get ds es i k1 k3, p1, p2, p3⟩
end

section
variable {X : Cx} {W : WX} {pos p p2 tpos : Pos} {a b c e tg : Expr} {es rest elts : List Expr} {kk : Nat}
/-- what an iterable asks -/
def tI (K : PySem.W.Frag) (mg : Str → Option Value) (W : WX) (m : M (List D)) : TI := fun σ H R => ∃ F e fp, SS K mg H F σ e fp ∧ WP K mg W σ H F fp (m e) (fun xs e1 => ∀ J H' F' fpe, Stp H F fp H' F' fpe → SS K mg H' F' σ e1 fpe → DWalk K mg J F' xs → R J H')
theorem PI.imp {X : Cx} {tg e : Expr} {t t' : TI} (h : PI X tg e t) (f : ∀ σ H Q, t' σ H Q → t σ H Q) : PI X tg e t' := ⟨fun pins s σ H Q I q => h.run pins s σ H Q I (f σ H Q q)⟩
noncomputable def itM (k : ITK) (its : List IE) : M (List D) := M.bind (evs its) fun ts => M.lift (itemsOf k (OT.views ts))
/-- a list, a tuple, a text, whichever it is -/
theorem pi_val {te : TE} (he : PE X e te) : PI X tg e (fun σ H R => te σ H fun x H1 => (∃ a, x = .ref a ∧ (∃ xs, SqL X.K H1 a xs) ∧ R (Itl X.K a) H1) ∨ (∃ a, x = .ref a ∧ (∃ xs, SqT X.K H1 a xs) ∧ R (Itt X.K a) H1) ∨ ∃ z, x = .str z ∧ R (Its z) H1) := by
  refine ⟨fun pins s σ H R I h => ?_⟩
  refine thn (he.run pins s σ H _ I h) fun v s1 ⟨x, H1, I1, r1, q1⟩ => ?_
  have one : ∀ (y : V) (w : Value), RelV y w → ∀ {s1 : Shared} {H1 : Hp} {Q : V → Hp → Prop} {v : Value}, v = w → Inv X pins σ H1 s1 → EP X pins σ (fun v H => v = y ∧ H = H1) v s1 := fun y w r {s1 H1 Q v} e I => ⟨y, H1, I, by rw [e]; exact r, rfl, rfl⟩
  rcases q1 with ⟨a, rfl, ⟨xs, hq⟩, q⟩ | ⟨a, rfl, ⟨xs, hq⟩, q⟩ | ⟨z, rfl, q⟩
  · cases r1
    obtain ⟨its, rv, pl, hz⟩ := I1.list hq
    exact wpAny_pyIter_list pl.isList (pi_one (tk := s1.toks) I1 _ (turn_list a _) ⟨_, Heap.get?_push_size _ rfl, rfl, rfl⟩ q)
  · cases r1
    obtain ⟨its, rv, pl, hz⟩ := I1.tuple hq
    exact wpAny_pyIter_tuple (show s1.heap.IsTuple a its.toArray from pl) (pi_one (tk := s1.toks) I1 _ (turn_tuple a _) ⟨_, Heap.get?_push_size _ rfl, rfl, rfl⟩ q)
  · obtain ⟨t, rfl⟩ := r1
    cases ha : z.cps.all (· < 128)
    · exact wpAny_pyIter_wide ha (pi_one (tk := s1.toks) I1 _ (turn_str _ z t "str_iterator" (.inr rfl)) ⟨_, Heap.get?_push_size _ rfl, rfl, rfl⟩ q)
    · exact wpAny_pyIter_ascii ha (pi_one (tk := s1.toks) I1 _ (turn_str _ z t "str_ascii_iterator" (.inl rfl)) ⟨_, Heap.get?_push_size _ rfl, rfl, rfl⟩ q)
theorem pi_valD {x : IE} (he : PE X e (tDX X W (sem x).1)) : PI X tg e (tI X.K X.mg W (itM .val [x])) := by
  refine PI.imp (pi_val he) fun σ H R h => ?_
  obtain ⟨F, en, fp, ss, h⟩ := h
  have h : WP X.K X.mg W σ H F fp (((sem x).1 en).bind fun t e1 => M.lift (itemsOf .val [t.view]) e1) (fun xs e1 => ∀ J H' F' fpe, Stp H F fp H' F' fpe → SS X.K X.mg H' F' σ e1 fpe → DWalk X.K X.mg J F' xs → R J H') := by
    have : itM .val [x] en = ((sem x).1 en).bind fun t e1 => M.lift (itemsOf .val [t.view]) e1 := by
      show (((sem x).1 en).bind fun t e1 => Rx.R.ok [t] e1).bind _ = _
      cases (sem x).1 en <;> rfl
    rw [this] at h
    exact h
  refine tD_useF Stp.refl ss h fun v t H1 F1 fp1 e1 s1 _ ss1 r1 h1 => ?_
  have h1 : WP X.K X.mg W σ H F fp (M.lift (itemsOf .val [t.view]) e1) (fun xs e1 => ∀ J H' F' fpe, Stp H F fp H' F' fpe → SS X.K X.mg H' F' σ e1 fpe → DWalk X.K X.mg J F' xs → R J H') := h1
  generalize t.view = d at r1 h1
  cases r1 with
  | tup hs hz r => exact .inr (.inl ⟨_, rfl, ⟨_, Same.seqT ss1.le hs⟩, h1 _ H1 F1 fp1 s1 ss1 (dw_tup hz hs r)⟩)
  | lst hs hz r => exact .inl ⟨_, rfl, ⟨_, ss1.le.seq (SqL.of hs)⟩, h1 _ H1 F1 fp1 s1 ss1 (dw_list hz (SqL.of hs) r)⟩
  | lk hs hz r => exact .inl ⟨_, rfl, ⟨_, ss1.le.seq hs⟩, h1 _ H1 F1 fp1 s1 ss1 (dw_list hz hs r)⟩
  | str hl hc => exact .inr (.inr ⟨_, rfl, h1 _ H1 F1 fp1 s1 ss1 (dw_str hl hc)⟩)
  | _ => exact False.elim h1
/-- frozen arguments, then what is walked -/
theorem it_use {k : ITK} {its : List IE} {σ : L2.St} {H : Hp} {R : It → Hp → Prop} {cont : List V → Hp → Prop} (h : tI X.K X.mg W (itM k its) σ H R)
    (c : ∀ vs ds H1 F1 fp1 e1, SS X.K X.mg H1 F1 σ e1 fp1 → DRs X.K X.mg F1 vs ds → (∀ xs, itemsOf k ds = some xs → ∀ J, DWalk X.K X.mg J F1 xs → R J H1) → (∃ xs, itemsOf k ds = some xs) → cont vs H1) : tDs X.K X.mg W (evs its) σ H cont := by
  obtain ⟨F, en, fp, ss, h⟩ := h
  refine tDs_use (f := fun ts e1 => M.lift (itemsOf k (OT.views ts)) e1) Stp.refl ss h fun vs ts H1 F1 fpe fpv e1 p h1 => ?_
  obtain ⟨q1, q2, q3⟩ := p.frz
  refine c vs (OT.views ts) H1 _ fpe e1 q2 q3 (fun xs hx J w => ?_) ?_
  · rw [hx] at h1
    exact h1 J H1 _ fpe q1 q2 w
  · cases hx : itemsOf k (OT.views ts) with
    | none => rw [hx] at h1; exact h1.elim
    | some xs => exact ⟨xs, rfl⟩
theorem pi_rng1D {x : IE} (hg : Gl X "range") (hm : X.mg "range" = none) (ha : PA X [a] (tDs X.K X.mg W (evs [x]))) (hs : starEach [a] X.env = [(false, eval a X.env)]) :
    PI X tg (.Call (.Name "range" p) [a] [] pos) (tI X.K X.mg W (itM .rng1 [x])) := by
  refine PI.imp (pi_range1 hg hm ha hs) fun σ H R h => it_use h fun vs ds H1 F1 fp1 e1 ss1 r1 k1 ⟨xs, hx⟩ => ?_
  cases r1 with
  | nil => cases hx
  | cons r rs =>
    cases rs with
    | nil =>
      cases r with
      | int n =>
        have hx : rngO 0 n = some xs := hx
        have k2 := k1 xs hx
        unfold rngO at hx
        split at hx
        · rename_i hn
          cases hx
          refine ⟨n, rfl, by omega, by omega, k2 _ ?_⟩
          have : n - 0 = n := by omega
          rw [this]
          exact dw_rng (by have := sizeLine_eq; omega)
        · cases hx
      | _ => cases hx
    | cons => cases r <;> cases hx
theorem pi_rng2D {x y : IE} (hg : Gl X "range") (hm : X.mg "range" = none) (ha : PA X [a, b] (tDs X.K X.mg W (evs [x, y]))) (hs : starEach [a, b] X.env = [(false, eval a X.env), (false, eval b X.env)]) (hs2 : starEach [b] X.env = [(false, eval b X.env)]) :
    PI X tg (.Call (.Name "range" p) [a, b] [] pos) (tI X.K X.mg W (itM .rng2 [x, y])) := by
  refine PI.imp (pi_range2 hg hm ha hs hs2) fun σ H R h => it_use h fun vs ds H1 F1 fp1 e1 ss1 r1 k1 ⟨xs, hx⟩ => ?_
  cases r1 with
  | nil => cases hx
  | cons r rs =>
    cases rs with
    | nil => cases r <;> cases hx
    | cons r2 rs2 =>
      cases rs2 with
      | cons => cases r <;> cases r2 <;> cases hx
      | nil =>
        cases r with
        | int n =>
          cases r2 with
          | int m =>
            have hx : rngO n m = some xs := hx
            have k2 := k1 xs hx
            unfold rngO at hx
            split at hx
            · rename_i hn
              cases hx
              exact ⟨n, m, rfl, ⟨by omega, by omega, by omega, by omega⟩, k2 _ (dw_rng (by have := sizeLine_eq; omega))⟩
            · cases hx
          | _ => cases hx
        | _ => cases r2 <;> cases hx
theorem pi_enumD {x : IE} (hg : Gl X "enumerate") (hm : X.mg "enumerate" = none) (ha : PA X [a] (tDs X.K X.mg W (evs [x]))) (hs : starEach [a] X.env = [(false, eval a X.env)]) :
    PI X (.Tuple elts kk tpos) (.Call (.Name "enumerate" p) [a] [] pos) (tI X.K X.mg W (itM .enum [x])) := by
  refine PI.imp (pi_enum hg hm ha hs) fun σ H R h => it_use h fun vs ds H1 F1 fp1 e1 ss1 r1 k1 ⟨xs, hx⟩ => ?_
  cases r1 with
  | nil => cases hx
  | cons r rs =>
    cases rs with
    | cons => cases r <;> cases hx
    | nil =>
      cases r with
      | lst hs hz r =>
        have k2 := k1 xs hx
        cases hx
        exact ⟨_, _, rfl, ss1.le.seq (SqL.of hs), k2 _ (dw_enum hz (SqL.of hs) r)⟩
      | _ => cases hx
theorem pi_zipD {x y : IE} (hg : Gl X "zip") (hm : X.mg "zip" = none) (ha : PA X [a, b] (tDs X.K X.mg W (evs [x, y]))) (hs : starEach [a, b] X.env = (false, eval a X.env) :: starEach [b] X.env) (hpl : (backTo pos (starEach [b] X.env)).any (·.1) = false) :
    PI X (.Tuple elts kk tpos) (.Call (.Name "zip" p) [a, b] [] pos) (tI X.K X.mg W (itM .zip [x, y])) := by
  refine PI.imp (pi_zip hg hm ha hs hpl) fun σ H R h => it_use h fun vs ds H1 F1 fp1 e1 ss1 r1 k1 ⟨xs, hx⟩ => ?_
  cases r1 with
  | nil => cases hx
  | cons r rs =>
    cases rs with
    | nil => cases r <;> cases hx
    | cons r2 rs2 =>
      cases rs2 with
      | cons => cases r <;> cases r2 <;> cases hx
      | nil =>
        cases r with
        | lst hs1 hz1 r1 =>
          cases r2 with
          | lst hs2 hz2 r2 =>
            have k2 := k1 xs hx
            cases hx
            exact ⟨_, _, _, _, rfl, ss1.le.seq (SqL.of hs1), ss1.le.seq (SqL.of hs2), k2 _ (dw_zip hz1 (SqL.of hs1) r1 (SqL.of hs2) r2)⟩
          | _ => cases hx
        | _ => cases r2 <;> cases hx
end
end Rx
end

section
/-! Rx, part 8: comprehensions. -/
namespace Rx
open PySem PySem.Spec PyProof.Rows L2
variable [Prw]

section
variable {K : PySem.W.Frag} {mg : Str → Option Value} {W : WX} {H F H' F' H1 F1 H0 F0 : Hp} {fp fp1 fp0 fpe fpv : List Addr}
theorem EvR.wipe : ∀ (vs : List Nat) {σ : L2.St} {e : Ev} {fp : List Addr}, EvR K mg H F σ e fp → ∃ fp', EvR K mg H F (L2.wipe σ vs) (wipeE e vs) fp' ∧ (∀ a ∈ fp', a ∈ fp)
  | [], σ, e, fp, r => ⟨fp, r, fun _ q => q⟩
  | v :: vs, σ, e, fp, r => by
    obtain ⟨fp1, h1, h2⟩ := EvR.wipe vs r
    obtain ⟨fp2, h3, h4⟩ := h1.drop v none
    exact ⟨fp2, h3, fun a ha => h2 a (h4 a ha)⟩
theorem wipe_in {σ : L2.St} {i : Nat} : ∀ {vs : List Nat}, i ∈ vs → (L2.wipe σ vs)[i]? = if i < σ.length then some none else none
  | v :: vs, h => by
    show ((L2.wipe σ vs).set v none)[i]? = _
    by_cases q : v = i
    · subst q
      by_cases hl : v < σ.length
      · rw [List.getElem?_set_self (by rw [L2.wipe_length]; exact hl), if_pos hl]
      · rw [if_neg hl, List.getElem?_eq_none (by rw [List.length_set, L2.wipe_length]; omega)]
    · rw [List.getElem?_set_ne q]
      exact wipe_in (by
        rcases List.mem_cons.mp h with z | z
        · exact absurd z.symm q
        · exact z)
theorem wipe_eq {σ σ2 : L2.St} {vs : List Nat} (hl : σ2.length = σ.length) (h : Pr (fun i => !vs.contains i) σ σ2) : L2.wipe σ2 vs = L2.wipe σ vs := by
  apply List.ext_getElem?
  intro i
  by_cases q : i ∈ vs
  · rw [wipe_in q, wipe_in q, hl]
  · rw [L2.wipe_out q, L2.wipe_out q]
    exact h i (by simpa using q)
theorem wipe_wipe {σ : L2.St} {vs : List Nat} : L2.wipe (L2.wipe σ vs) vs = L2.wipe σ vs := by
  refine wipe_eq (L2.wipe_length σ vs) fun i h => ?_
  exact L2.wipe_out (by simpa using h)
theorem ownOk_nodup : ∀ {js : List Nat} {e : Ev}, ownOk e js = true → js.Nodup
  | [], _, _ => .nil
  | j :: js, e, h => by
    unfold ownOk at h
    simp only [Bool.and_eq_true, Bool.not_eq_true', List.contains_eq_mem, decide_eq_false_iff_not] at h
    exact List.nodup_cons.mpr ⟨h.1.2, ownOk_nodup h.2⟩
/-- the own names' slots as they were -/
theorem rest_ok {e0 : Ev} {σ : L2.St} : ∀ (vs : List Nat) {e : Ev} {fp : List Addr} (hn : vs.Nodup), (∀ j ∈ vs, e0.at j = none ∨ ∃ d v, e0.at j = some (.fz d) ∧ σ[j]? = some (some v) ∧ DR K mg F v d) → EvR K mg H F (L2.wipe σ vs) e fp →
    ∃ fp', EvR K mg H F σ (restE e0 e vs) fp' ∧ (∀ a ∈ fp', a ∈ fp)
  | [], e, fp, _, _, r => ⟨fp, r, fun _ q => q⟩
  | j :: js, e, fp, hn, ho, r => by
    have r : EvR K mg H F ((L2.wipe σ js).set j none) e fp := r
    have hj : j ∉ js := (List.nodup_cons.mp hn).1
    have step : ∃ fp1, EvR K mg H F (L2.wipe σ js) (e.set j (e0.at j)) fp1 ∧ (∀ a ∈ fp1, a ∈ fp) := by
      have back : ∀ {s : Option V}, (L2.wipe σ js)[j]? = some s → ((L2.wipe σ js).set j none).set j s = L2.wipe σ js := fun {s} h => by
        rw [List.set_set]
        apply List.ext_getElem?
        intro i
        by_cases q : j = i
        · subst q
          rw [List.getElem?_set_self (List.getElem?_eq_some_iff.mp h).1, h]
        · rw [List.getElem?_set_ne q]
      rcases ho j List.mem_cons_self with h | ⟨d, v, h1, h2, h3⟩
      · rw [h]
        cases hs : (L2.wipe σ js)[j]? with
        | none =>
          have hl : (L2.wipe σ js).length ≤ j := List.getElem?_eq_none_iff.mp hs
          rw [List.set_eq_of_length_le hl] at r
          rw [List.set_eq_of_length_le (by rw [← r.length]; exact hl)]
          exact ⟨fp, r, fun _ q => q⟩
        | some s =>
          obtain ⟨fp1, g1, g2⟩ := r.drop j s
          rw [back hs] at g1
          exact ⟨fp1, g1, g2⟩
      · rw [h1]
        obtain ⟨fp1, g1, g2⟩ := EvR.set (g := []) j r (.fz h3) nm
        rw [back (by rw [L2.wipe_out hj]; exact h2)] at g1
        exact ⟨fp1, g1, fun a ha => (g2 a ha).elim (fun z => nomatch z) id⟩
    obtain ⟨fp1, g1, g2⟩ := step
    obtain ⟨fp2, g3, g4⟩ := rest_ok js (List.nodup_cons.mp hn).2 (fun i hi => ho i (List.mem_cons_of_mem _ hi)) g1
    exact ⟨fp2, g3, fun a ha => g2 a (g4 a ha)⟩
theorem own_data {e : Ev} {σ : L2.St} : ∀ {js : List Nat}, ownOk e js = true → EvR K mg H F σ e fp → ∀ j ∈ js, e.at j = none ∨ ∃ d v, e.at j = some (.fz d) ∧ σ[j]? = some (some v) ∧ DR K mg F v d
  | [], _, _ => fun _ z => nomatch z
  | i :: js, h, r => fun j hj => by
    unfold ownOk at h
    simp only [Bool.and_eq_true] at h
    rcases List.mem_cons.mp hj with rfl | hj
    · cases ha : e.at j with
      | none => exact .inl rfl
      | some t =>
        obtain ⟨v, g, h1, h2, _⟩ := r.at ha
        cases t with
        | fz d =>
          cases h2 with
          | fz x => exact .inr ⟨d, v, rfl, h1, x⟩
        | lst => rw [ha] at h; exact absurd h.1.1 (by simp)
        | dic => rw [ha] at h; exact absurd h.1.1 (by simp)
        | din => rw [ha] at h; exact absurd h.1.1 (by simp)
        | ins => rw [ha] at h; exact absurd h.1.1 (by simp)
    · exact own_data h.2 r j hj
theorem ml_of {vs : List V} {ds : List D} {L : Addr} (h : H L = some (.lst vs)) (hz : vs.length ≤ sizeLine) (r : DRs K mg F vs ds) : OTR K mg H F (.ref L) (.ml ds) [L] := by
  have go : ∀ {vs : List V} {ds : List D}, DRs K mg F vs ds → OTRs K mg H F vs (ds.map .fz) [] := fun {vs} => by
    induction vs with
    | nil => intro ds r; cases r; exact .nil
    | cons v vs ih =>
      intro ds r
      cases r with
      | cons a b => exact .cons (fp := []) (fps := []) (.fz a) (ih b) nm
  exact .lst h hz (go r) (fun z => nomatch z)
theorem DRs.snoc : ∀ {vs : List V} {ds : List D} {v : V} {d : D}, DRs K mg F vs ds → DR K mg F v d → DRs K mg F (vs ++ [v]) (ds ++ [d])
  | _, _, _, _, .nil, r => .cons r .nil
  | _, _, _, _, .cons a b, r => .cons a (DRs.snoc b r)
end

section
variable {X : Cx} {W : WX} {pos : Pos} {elt iter tg : Expr} {ifs : List Expr} {scope : Scope}
/-- nothing is raised -/
abbrev W0 : WX := fun _ _ _ _ => False
theorem lc_coreD {K : PySem.W.Frag} {mg : Str → Option Value} {tgt : TGt} {mc : M Bool} {me : M OT} {own : List Nat} {σ : L2.St} {H F H1 F1 : Hp} {fp fp1 : List Addr} {e1 : Ev} {J : It} {xs : List D} {Q : VK} (ht : (tgt.has.all fun j => own.contains j) = true)
    (wk : DWalk K mg J F1 xs) (s1 : Stp H F fp H1 F1 fp1) (ss1 : SS K mg H1 F1 σ e1 fp1) (h : WP K mg W σ H F fp (lcRun own tgt mc me xs e1) (FinV K mg H F fp σ Q)) : tLc (fun _ H R => R J H) (gOf K tgt) (tDb K mg W0 mc) (tD K mg W0 me) own σ H1 Q := by
  intro L hL
  have h : WP K mg W σ H F fp (lcRun own tgt mc me xs e1) (FinV K mg H F fp σ Q) := h
  unfold lcRun at h
  cases hok : ownOk e1 own with
  | false => rw [hok] at h; exact h.elim
  | true =>
    rw [hok] at h
    have hnd := ownOk_nodup hok
    have hod := own_data hok ss1.env
    -- the invariant
    refine ⟨fun i m H2 => i ≤ xs.length ∧ m = xs.length - i ∧ ∃ F2 e2 fp2 vacc acc, Stp H1 F1 fp1 H2 F2 (L :: fp2) ∧ SS K mg H2 F2 (L2.wipe σ own) (wipeE e2 own) fp2 ∧ H2 L = some (.lst vacc) ∧ F2 L = none ∧ L ∉ fp2 ∧ DRs K mg F2 vacc acc ∧ vacc.length ≤ i ∧ i ≤ sizeLine ∧ xs.length ≤ sizeLine ∧
      WP K mg W σ H F fp ((lcGo own tgt mc me (xs.drop i) acc e2).bind fun acc e' => .ok (.ml acc) (restE e1 (wipeE e' own) own)) (FinV K mg H F fp σ Q), ?_, ?_⟩
    · obtain ⟨fp2, g1, g2⟩ := ss1.env.wipe own
      refine ⟨xs.length, Nat.zero_le _, rfl, F1, e1, fp2, [], [], ?_, ⟨same_new ss1.le hL, ?_, fun a ha => ss1.own a (g2 a ha)⟩, upd_same, Same.free ss1.le hL, fun z => ?_, .nil, Nat.le_refl _, Nat.zero_le _, ?_, h⟩
      · exact (Stp.newO hL).sub fun a ha => (List.mem_cons.mp ha).elim (fun z => by rw [z]; exact List.mem_cons_self) fun z => List.mem_cons_of_mem _ (g2 a z)
      · exact g1.keep (Same.refl _) fun a ha o q => by rw [upd_ne (ne_of_none q hL)]; exact q
      · obtain ⟨o, q⟩ := g1.there L z
        rw [hL] at q; cases q
      · exact wk.few
    · rintro i m H2 ⟨hi, rfl, F2, e2, fp2, vacc, acc, s2, ss2, hLv, hLF, hLn, racc, hva, hil, hxl, h2⟩
      have wk2 : DWalk K mg J F2 xs := wk.mono s2.fz
      by_cases hlt : i < xs.length
      · refine .inr ⟨wk2.goes i H2 ss2.le hlt, ?_⟩
        have hd : xs.drop i = xs[i] :: xs.drop (i + 1) := List.drop_eq_getElem_cons hlt
        rw [hd] at h2
        refine ⟨fun H5 => ∃ F5 e5 fp5 vacc5 acc5, Stp H1 F1 fp1 H5 F5 (L :: fp5) ∧ SS K mg H5 F5 (L2.wipe σ own) (wipeE e5 own) fp5 ∧ H5 L = some (.lst vacc5) ∧ F5 L = none ∧ L ∉ fp5 ∧ DRs K mg F5 vacc5 acc5 ∧ vacc5.length ≤ i + 1 ∧
          WP K mg W σ H F fp ((lcGo own tgt mc me (xs.drop (i + 1)) acc5 e5).bind fun acc e' => .ok (.ml acc) (restE e1 (wipeE e' own) own)) (FinV K mg H F fp σ Q), ?_, ?_⟩
        · rintro H5 ⟨F5, e5, fp5, vacc5, acc5, k1, k2, k3, k4, k5, k6, k7, k8⟩
          exact ⟨xs.length - (i + 1), by omega, hlt, rfl, F5, e5, fp5, vacc5, acc5, k1, k2, k3, k4, k5, k6, k7, by omega, hxl, k8⟩
        · intro x H3 hy
          obtain ⟨d, F3, hd1, st3, le3, rd⟩ := wk2.yields i H2 x H3 F2 (Same.refl _) ss2.le hlt hy
          have hd2 : xs[i] = d := Option.some.inj ((List.getElem?_eq_getElem hlt).symm.trans hd1)
          rw [hd2] at h2
          -- the state behind the item
          obtain ⟨k1, k2, k3⟩ := st3.held ss2.env.there (fun a _ q => nomatch q) ss2.own
          have hL3 : H3 L = some (.lst vacc) := st3.ke L _ hLv fun z => nomatch z
          have hLF3 : F3 L = none := (st3.held (gp := [L]) (fun a ha => by
            have : a = L := by simpa using ha
            rw [this]; exact ⟨_, hLv⟩) (fun a _ q => nomatch q) (fun a ha => by
            have : a = L := by simpa using ha
            rw [this]; exact hLF)).2.1 L List.mem_cons_self
          have ss3 : SS K mg H3 F3 (L2.wipe σ own) (wipeE e2 own) fp2 := ⟨le3, ss2.env.keep st3.fz k1, k2⟩
          have s3 : Stp H1 F1 fp1 H3 F3 (L :: fp2) := s2.trans (by simpa using st3.frame (gp := L :: fp2))
          cases hb : bindT tgt d (wipeE e2 own) with
          | none =>
            have : lcGo own tgt mc me (d :: xs.drop (i + 1)) acc e2 = .bad := by
              show (match bindT tgt d (wipeE e2 own) with | none => _ | some e1 => _) = _
              rw [hb]
            rw [this] at h2
            exact h2.elim
          | some e3 =>
            have eq : lcGo own tgt mc me (d :: xs.drop (i + 1)) acc e2 = (noX (mc e3)).bind fun b e4 => pickB b ((noX (me e4)).bind fun t e5 => lcGo own tgt mc me (xs.drop (i + 1)) (acc ++ [t.view]) e5) (lcGo own tgt mc me (xs.drop (i + 1)) acc e4) := by
              show (match bindT tgt d (wipeE e2 own) with | none => _ | some e1 => _) = _
              rw [hb]
            rw [eq] at h2
            refine bindT_ok (P := fun i => !own.contains i) tgt (by simpa using ht) rd hb ss3 fun σ3 fp3 ss4 sub3 pr3 len3 => ?_
            have hw : L2.wipe σ3 own = L2.wipe σ own := by
              rw [wipe_eq len3 pr3, wipe_wipe]
            refine ⟨hw, F3, e3, fp3, ss4, ?_⟩
            have hL4 : L ∉ fp3 := fun z => hLn (sub3 L z)
            -- the turn's end
            have fin : ∀ {H5 F5 : Hp} {fp5 : List Addr} {e5 : Ev} {vacc5 : List V} {acc5 : List D}, Stp H1 F1 fp1 H5 F5 (L :: fp5) → SS K mg H5 F5 σ3 e5 fp5 → H5 L = some (.lst vacc5) → F5 L = none → L ∉ fp5 → DRs K mg F5 vacc5 acc5 → vacc5.length ≤ i + 1 →
                WP K mg W σ H F fp ((lcGo own tgt mc me (xs.drop (i + 1)) acc5 e5).bind fun acc e' => .ok (.ml acc) (restE e1 (wipeE e' own) own)) (FinV K mg H F fp σ Q) →
                ∃ F5 e5 fp5 vacc5 acc5, Stp H1 F1 fp1 H5 F5 (L :: fp5) ∧ SS K mg H5 F5 (L2.wipe σ own) (wipeE e5 own) fp5 ∧ H5 L = some (.lst vacc5) ∧ F5 L = none ∧ L ∉ fp5 ∧ DRs K mg F5 vacc5 acc5 ∧ vacc5.length ≤ i + 1 ∧
                  WP K mg W σ H F fp ((lcGo own tgt mc me (xs.drop (i + 1)) acc5 e5).bind fun acc e' => .ok (.ml acc) (restE e1 (wipeE e' own) own)) (FinV K mg H F fp σ Q) := fun {H5 F5 fp5 e5 vacc5 acc5} g1 g2 g3 g4 g5 g6 g7 g8 => by
              obtain ⟨fp6, w1, w2⟩ := g2.env.wipe own
              rw [hw] at w1
              exact ⟨F5, e5, fp6, vacc5, acc5, g1.sub fun a ha => (List.mem_cons.mp ha).elim (fun z => by rw [z]; exact List.mem_cons_self) fun z => List.mem_cons_of_mem _ (w2 a z), ⟨g2.le, w1, fun a ha => g2.own a (w2 a ha)⟩, g3, g4, fun z => g5 (w2 L z), g6, g7, g8⟩
            have heldL : ∀ {Ha Fa Hb Fb : Hp} {fa fb : List Addr}, Stp Ha Fa fa Hb Fb fb → Ha L = some (.lst vacc) → Fa L = none → L ∉ fa → Hb L = some (.lst vacc) ∧ Fb L = none ∧ L ∉ fb := fun {Ha Fa Hb Fb fa fb} st a1 a2 a3 => by
              obtain ⟨b1, b2, b3⟩ := st.held (gp := [L]) (fun a ha => by
                have : a = L := by simpa using ha
                rw [this]; exact ⟨_, a1⟩) (fun a ha => by
                have : a = L := by simpa using ha
                rw [this]; exact a3) (fun a ha => by
                have : a = L := by simpa using ha
                rw [this]; exact a2)
              exact ⟨b1 L List.mem_cons_self _ a1, b2 L List.mem_cons_self, b3 L List.mem_cons_self⟩
            have s3' : Stp H1 F1 fp1 H3 F3 (L :: fp3) := s3.sub fun a ha => (List.mem_cons.mp ha).elim (fun z => by rw [z]; exact List.mem_cons_self) fun z => List.mem_cons_of_mem _ (sub3 a z)
            cases hmc : mc e3 with
            | bad => rw [hmc] at h2; exact h2.elim
            | exn x' e4 => rw [hmc] at h2; exact h2.elim
            | ok bb e4 =>
              rw [hmc] at h2
              intro H4 F4 fp4 st4 ss5
              obtain ⟨c1, c2, c3⟩ := heldL st4 hL3 hLF3 hL4
              have s4 : Stp H1 F1 fp1 H4 F4 (L :: fp4) := s3'.trans (by simpa using st4.frameL (gp := [L]))
              cases bb with
              | false =>
                refine iteF (fin s4 ss5 c1 c2 c3 ((racc.mono st3.fz).mono st4.fz) (by omega) h2)
              | true =>
                have h2 : WP K mg W σ H F fp (((noX (me e4)).bind fun t e5 => lcGo own tgt mc me (xs.drop (i + 1)) (acc ++ [t.view]) e5).bind fun acc e' => .ok (.ml acc) (restE e1 (wipeE e' own) own)) (FinV K mg H F fp σ Q) := h2
                refine iteT ⟨F4, e4, fp4, ss5, ?_⟩
                cases hme : me e4 with
                | bad => rw [hme] at h2; exact h2.elim
                | exn x' e5 => rw [hme] at h2; exact h2.elim
                | ok t e5 =>
                  rw [hme] at h2
                  intro y H5 F5 fpe5 fpv5 p5
                  obtain ⟨q1, q2, q3⟩ := p5.frz
                  obtain ⟨d1, d2, d3⟩ := heldL q1 c1 c2 c3
                  have racc5 : DRs K mg (frzF F5 H5 fpv5) vacc acc := (((racc.mono st3.fz).mono st4.fz).mono q1.fz)
                  refine ⟨vacc, d1, by have := sizeLine_eq; omega, ?_⟩
                  have hupd : ∀ a ∈ fpe5, ∀ o, H5 a = some o → upd H5 L (.lst (vacc ++ [y])) a = some o := fun a ha o q => by
                    rw [upd_ne (fun z => d3 (by rw [← z]; exact ha))]; exact q
                  refine fin (F5 := frzF F5 H5 fpv5) (fp5 := fpe5) (vacc5 := vacc ++ [y]) (acc5 := acc ++ [t.view]) ?_ ⟨fun a o q => ?_, q2.env.keep (Same.refl _) hupd, q2.own⟩ upd_same d2 d3 (racc5.snoc q3) (by rw [List.length_append]; simp; omega) h2
                  · have := s4.trans (by simpa using q1.frameL (gp := [L]))
                    exact this.trans (Stp.wr List.mem_cons_self)
                  · have : a ≠ L := fun z => by rw [z, d2] at q; cases q
                    rw [upd_ne this]
                    exact q2.le a o q
      · have ei : i = xs.length := by omega
        subst ei
        refine .inl ⟨wk2.stops H2 ss2.le, ?_⟩
        rw [List.drop_length] at h2
        have h2 : FinV K mg H F fp σ Q (.ml acc) (restE e1 (wipeE e2 own) own) := h2
        obtain ⟨fp3, r1, r2⟩ := rest_ok own hnd (fun j hj => (hod j hj).imp id fun ⟨d, v, a1, a2, a3⟩ => ⟨d, v, a1, a2, a3.mono s2.fz⟩) ss2.env
        refine h2 (.ref L) H2 F2 fp3 [L] ⟨(s1.trans s2).sub fun a ha => ?_, ⟨ss2.le, r1, fun a ha => ss2.own a (r2 a ha)⟩, ml_of hLv (by omega) racc, fun a ha q => ?_, fun a ha => ?_⟩
        · exact (List.mem_append.mp ha).elim (fun z => by have : a = L := by simpa using z
                                                          rw [this]; exact List.mem_cons_self) fun z => List.mem_cons_of_mem _ (r2 a z)
        · have : a = L := by simpa using ha
          rw [this] at q
          exact hLn (r2 L q)
        · have : a = L := by simpa using ha
          rw [this]; exact hLF
theorem lc_use {K : PySem.W.Frag} {mg : Str → Option Value} {tgt : TGt} {mc : M Bool} {me : M OT} {own : List Nat} {mi : M (List D)} {σ : L2.St} {H : Hp} {Q : VK} (ht : (tgt.has.all fun j => own.contains j) = true)
    (h : tD K mg W (M.bind mi fun xs => lcRun own tgt mc me xs) σ H Q) : tLc (tI K mg W mi) (gOf K tgt) (tDb K mg W0 mc) (tD K mg W0 me) own σ H Q := by
  obtain ⟨F, e0, fp, ss, h⟩ := h
  have h : WP K mg W σ H F fp ((mi e0).bind fun xs e1 => lcRun own tgt mc me xs e1) (FinV K mg H F fp σ Q) := h
  refine ⟨F, e0, fp, ss, ?_⟩
  cases hm : mi e0 with
  | bad => rw [hm] at h; exact h.elim
  | exn x e1 => rw [hm] at h; exact h
  | ok xs e1 =>
    rw [hm] at h
    intro J H1 F1 fp1 s1 ss1 wk
    exact lc_coreD ht wk s1 ss1 h
end
end Rx
end

section
/-! Rx, part 9: statements. -/
namespace Rx
open PySem PySem.Spec PyProof.Rows L2
variable [Prw]

theorem PS.imp {X : Cx} {s : Stmt} {t t' : TS} (h : PS X s t) (f : ∀ D σ H, t' D σ H → t D σ H) : PS X s t' := ⟨fun pins s σ H D I q => h.run pins s σ H D I (f D σ H q)⟩
theorem PSs.imp {X : Cx} {s : List Stmt} {t t' : TS} (h : PSs X s t) (f : ∀ D σ H, t' D σ H → t D σ H) : PSs X s t' := ⟨fun pins s σ H D I q => h.run pins s σ H D I (f D σ H q)⟩

section
variable (K : PySem.W.Frag) (mg : Str → Option Value)
/-- what is wanted behind statements, from the state at their start -/
def WS (W : WX) (P : Nat → Bool) (D : Ends) (H F : Hp) (fp : List Addr) (σ : L2.St) (r : SR) : Prop :=
  match r with
  | .bad => False
  | .nx e => ∀ σ' H' F' fp', Stp H F fp H' F' fp' → SS K mg H' F' σ' e fp' → Pr P σ σ' → D.nx σ' H'
  | .brk e => ∀ σ' H' F' fp', Stp H F fp H' F' fp' → SS K mg H' F' σ' e fp' → Pr P σ σ' → D.bk σ' H'
  | .ct e => ∀ σ' H' F' fp', Stp H F fp H' F' fp' → SS K mg H' F' σ' e fp' → Pr P σ σ' → D.ct σ' H'
  | .ret t e => ∀ v σ' H' F' fpe fpv, VPost K mg H F fp σ' e v t H' F' fpe fpv → Pr P σ σ' → D.rt v H'
  | .exn x e => ∀ cls d σ' H' F' fp', Stp H F fp H' F' fp' → SS K mg H' F' σ' e fp' → Pr P σ σ' → ExR K mg H' F' x cls d → W cls d σ' H'
def tS (W : WX) (P : Nat → Bool) (m : Ev → SR) : TS := fun D σ H => ∃ F e fp, SS K mg H F σ e fp ∧ WS K mg W P D H F fp σ (m e)
end

section
variable {K : PySem.W.Frag} {mg : Str → Option Value} {W : WX} {P : Nat → Bool} {D D0 : Ends} {σ σ0 : L2.St} {H F H' F' H1 F1 H0 F0 : Hp} {fp fp1 fp0 fpe fpv : List Addr} {e : Ev}
theorem VPost.pre {v : V} {t : OT} {e1 : Ev} (s : Stp H0 F0 fp0 H F fp) (p : VPost K mg H F fp σ e1 v t H1 F1 fpe fpv) : VPost K mg H0 F0 fp0 σ e1 v t H1 F1 fpe fpv := ⟨s.trans p.st, p.ss, p.val, p.dis, p.own⟩
theorem WS.step {r : SR} (s : Stp H0 F0 fp0 H F fp) (p : Pr P σ0 σ) (h : WS K mg W P D H0 F0 fp0 σ0 r) : WS K mg W P D H F fp σ r := by
  cases r with
  | bad => exact h
  | nx e => exact fun σ' H' F' fp' st ss q => h σ' H' F' fp' (s.trans st) ss (p.trans q)
  | brk e => exact fun σ' H' F' fp' st ss q => h σ' H' F' fp' (s.trans st) ss (p.trans q)
  | ct e => exact fun σ' H' F' fp' st ss q => h σ' H' F' fp' (s.trans st) ss (p.trans q)
  | ret t e => exact fun v σ' H' F' fpe fpv vp q => h v σ' H' F' fpe fpv (vp.pre s) (p.trans q)
  | exn x e => exact fun cls d σ' H' F' fp' st ss q => h cls d σ' H' F' fp' (s.trans st) ss (p.trans q)
theorem goS {m : Ev → SR} (s : Stp H0 F0 fp0 H F fp) (p : Pr P σ0 σ) (ss : SS K mg H F σ e fp) (h : WS K mg W P D H0 F0 fp0 σ0 (m e)) : tS K mg W P m D σ H := ⟨F, e, fp, ss, WS.step s p h⟩
theorem st_xc {x : Exn} {e1 : Ev} (s : Stp H0 F0 fp0 H F fp) (p : Pr P σ0 σ) (h : WS K mg W P D H0 F0 fp0 σ0 (.exn x e1)) : Xc K mg W σ H F fp x e1 := fun cls d H' F' fpe st ss ex => h cls d σ H' F' fpe (s.trans st) ss p ex
/-- an operand in a statement, something being held -/
theorem opd_st {x : IE} {m : M OT} {f : Option Rx.D → Ev → SR} {cont : V → Hp → Prop} {g : List Addr} (s : Stp H0 F0 fp0 H F (g ++ fp)) (p : Pr P σ0 σ) (ss : SS K mg H F σ e fp) (h : WS K mg W P D0 H0 F0 fp0 σ0 ((opd x m e).st f))
    (c : ∀ v H1 F1 fp1 r e1, Stp H F fp H1 F1 fp1 → SS K mg H1 F1 σ e1 fp1 → OpH K mg F1 σ x r v → WS K mg W P D0 H0 F0 fp0 σ0 (f r e1) → cont v H1) : tO K mg W x m σ H cont := by
  have h0 : ∀ {r : Option D} {e1 : Ev}, WP K mg W σ H F fp (((opd x m e).bind fun r e1 => R.ok (r, e1) e1)) (fun q _ => WS K mg W P D0 H0 F0 fp0 σ0 (f q.1 q.2)) := by
    intro _ _
    cases hm : opd x m e with
    | bad => rw [hm] at h; exact h
    | exn x1 e1 =>
      rw [hm] at h
      exact fun cls d H' F' fpe st s1 ex => h cls d σ H' F' fpe ((s.trans st.frameL).sub fun a ha => List.mem_append_right _ ha) s1 p ex
    | ok r e1 => rw [hm] at h; exact h
  exact opd_use Stp.refl ss (h0 (r := none) (e1 := [])) fun v H1 F1 fp1 r e1 st _ s1 o q => c v H1 F1 fp1 r e1 st s1 o q
theorem tD_st {m : M OT} {f : OT → Ev → SR} {cont : V → Hp → Prop} (s : Stp H0 F0 fp0 H F fp) (p : Pr P σ0 σ) (ss : SS K mg H F σ e fp) (h : WS K mg W P D H0 F0 fp0 σ0 ((m e).st f))
    (c : ∀ v t H1 F1 fpe fpv e1, VPost K mg H F fp σ e1 v t H1 F1 fpe fpv → WS K mg W P D H0 F0 fp0 σ0 (f t e1) → cont v H1) : tD K mg W m σ H cont := by
  refine ⟨F, e, fp, ss, ?_⟩
  cases hm : m e with
  | bad => rw [hm] at h; exact h.elim
  | exn x e1 => rw [hm] at h; exact st_xc s p h
  | ok t e1 => rw [hm] at h; exact fun v H1 F1 fpe fpv q => c v t H1 F1 fpe fpv e1 q h
theorem tDs_st {m : M (List OT)} {f : List OT → Ev → SR} {cont : List V → Hp → Prop} (s : Stp H0 F0 fp0 H F fp) (p : Pr P σ0 σ) (ss : SS K mg H F σ e fp) (h : WS K mg W P D H0 F0 fp0 σ0 ((m e).st f))
    (c : ∀ v t H1 F1 fpe fpv e1, VsPost K mg H F fp σ e1 v t H1 F1 fpe fpv → WS K mg W P D H0 F0 fp0 σ0 (f t e1) → cont v H1) : tDs K mg W m σ H cont := by
  refine ⟨F, e, fp, ss, ?_⟩
  cases hm : m e with
  | bad => rw [hm] at h; exact h.elim
  | exn x e1 => rw [hm] at h; exact st_xc s p h
  | ok t e1 => rw [hm] at h; exact fun v H1 F1 fpe fpv q => c v t H1 F1 fpe fpv e1 q h
theorem tDb_st {m : M Bool} {f : Bool → Ev → SR} {cont : Bool → Hp → Prop} (s : Stp H0 F0 fp0 H F fp) (p : Pr P σ0 σ) (ss : SS K mg H F σ e fp) (h : WS K mg W P D H0 F0 fp0 σ0 ((m e).st f))
    (c : ∀ b H1 F1 fp1 e1, Stp H F fp H1 F1 fp1 → SS K mg H1 F1 σ e1 fp1 → WS K mg W P D H0 F0 fp0 σ0 (f b e1) → cont b H1) : tDb K mg W m σ H cont := by
  refine ⟨F, e, fp, ss, ?_⟩
  cases hm : m e with
  | bad => rw [hm] at h; exact h.elim
  | exn x e1 => rw [hm] at h; exact st_xc s p h
  | ok t e1 => rw [hm] at h; exact fun H1 F1 fp1 st s1 => c t H1 F1 fp1 e1 st s1 h
theorem SS.setO {j : Nat} {v : V} {t : OT} {g : List Addr} (ss : SS K mg H F σ e fp) (o : OTR K mg H F v t g) (d : ∀ a ∈ g, a ∉ fp) (ow : ∀ a ∈ g, F a = none) : ∃ fp', SS K mg H F (σ.set j (some v)) (e.set j (some t)) fp' ∧ (∀ a ∈ fp', a ∈ g ∨ a ∈ fp) := by
  obtain ⟨fp', h1, h2⟩ := EvR.set j ss.env o d
  exact ⟨fp', ⟨ss.le, h1, fun a ha => (h2 a ha).elim (ow a) (ss.own a)⟩, h2⟩
end

section
variable {X : Cx} {W : WX} {P : Nat → Bool} {pos : Pos} {st : Stmt} {rest a b : List Stmt} {e c tg iter : Expr} {te : TE}
abbrev tSX (X : Cx) (W : WX) (P : Nat → Bool) (m : Ev → SR) : TS := tS X.K X.mg W P m
/-! ### blocks -/
theorem pss_nilD : PSs X [] (tSX X W P (run [])) := PSs.imp pss_nil fun D σ H h => by
  obtain ⟨F, en, fp, ss, h⟩ := h
  exact h σ H F fp Stp.refl ss Pr.refl
theorem pss_consD {s : IS} {ss : List IS} (h1 : PS X st (tSX X W P (run1 s))) (h2 : PSs X rest (tSX X W P (run ss))) : PSs X (st :: rest) (tSX X W P (run (s :: ss))) := by
  refine PSs.imp (pss_cons h1 h2) fun D σ H h => ?_
  obtain ⟨F, en, fp, s0, h⟩ := h
  refine ⟨F, en, fp, s0, ?_⟩
  have h : WS X.K X.mg W P D H F fp σ ((run1 s en).sq (run ss)) := h
  cases hm : run1 s en with
  | bad => rw [hm] at h; exact h
  | nx e1 => rw [hm] at h; exact fun σ' H' F' fp' st s1 p => goS st p s1 h
  | brk e1 => rw [hm] at h; exact h
  | ct e1 => rw [hm] at h; exact h
  | ret t e1 => rw [hm] at h; exact h
  | exn x e1 => rw [hm] at h; exact h
/-! ### small statements -/
theorem ps_asgD {j : Nat} {x : IE} (hP : P j = false) (hs : PS X st (tAsg te (gName j))) (hte : ∀ σ H Q, tDX X W (sem x).1 σ H Q → te σ H Q) : PS X st (tSX X W P (run1 (.asg j x))) := by
  refine PS.imp hs fun D σ H h => ?_
  obtain ⟨F, en, fp, ss, h⟩ := h
  refine hte σ H _ (tD_st Stp.refl Pr.refl ss h fun v t H1 F1 fpe fpv e1 p h1 => ?_)
  obtain ⟨fp', k1, k2⟩ := p.ss.setO (j := j) p.val p.dis p.own
  exact h1 _ H1 F1 fp' (p.st.sub fun a ha => List.mem_append.mpr (k2 a ha)) k1 (Pr.set hP)
theorem ps_asgTD {tgt : TGt} {x : IE} (hP : (tgt.has.all fun j => !P j) = true) (hs : PS X st (tAsg te (gOf X.K tgt))) (hte : ∀ σ H Q, tDX X W (sem x).1 σ H Q → te σ H Q) : PS X st (tSX X W P (run1 (.asgT tgt x))) := by
  refine PS.imp hs fun D σ H h => ?_
  obtain ⟨F, en, fp, ss, h⟩ := h
  refine hte σ H _ (tD_st Stp.refl Pr.refl ss h fun v t H1 F1 fpe fpv e1 p h1 => ?_)
  obtain ⟨q1, q2, q3⟩ := p.frz
  cases hb : bindT tgt t.view e1 with
  | none => rw [hb] at h1; exact h1.elim
  | some e2 =>
    rw [hb] at h1
    exact bindT_ok tgt hP q3 hb q2 fun σ' fp' s' sub pr _ => h1 σ' H1 _ fp' (q1.sub sub) s' pr
theorem ps_exD {x : IE} (hs : PS X st (tDrop te)) (hte : ∀ σ H Q, tDX X W (sem x).1 σ H Q → te σ H Q) : PS X st (tSX X W P (run1 (.ex x))) := by
  refine PS.imp hs fun D σ H h => ?_
  obtain ⟨F, en, fp, ss, h⟩ := h
  refine hte σ H _ (tD_st Stp.refl Pr.refl ss h fun v t H1 F1 fpe fpv e1 p h1 => ?_)
  exact h1 σ H1 F1 fpe (p.st.sub fun a ha => List.mem_append_right _ ha) p.ss Pr.refl
theorem ps_retD {x : IE} (he : PE X e (tDX X W (sem x).1)) : PS X (.Return (some e) pos) (tSX X W P (run1 (.ret x))) := by
  refine PS.imp (ps_ret he) fun D σ H h => ?_
  obtain ⟨F, en, fp, ss, h⟩ := h
  exact tD_st Stp.refl Pr.refl ss h fun v t H1 F1 fpe fpv e1 p h1 => h1 v σ H1 F1 fpe fpv p Pr.refl
theorem ps_retND : PS X (.Return none pos) (tSX X W P (run1 .retN)) := by
  refine PS.imp ps_retN fun D σ H h => ?_
  obtain ⟨F, en, fp, ss, h⟩ := h
  exact h .non σ H F fp [] ⟨Stp.refl, ss, .fz .non, nm, nm⟩ Pr.refl
theorem ps_brkD : PS X (.Break pos) (tSX X W P (run1 .brk)) := PS.imp ps_break fun D σ H h => by
  obtain ⟨F, en, fp, ss, h⟩ := h
  exact h σ H F fp Stp.refl ss Pr.refl
theorem ps_contD : PS X (.Continue pos) (tSX X W P (run1 .cont)) := PS.imp ps_continue fun D σ H h => by
  obtain ⟨F, en, fp, ss, h⟩ := h
  exact h σ H F fp Stp.refl ss Pr.refl
theorem ps_passD : PS X (.Pass pos) (tSX X W P (run1 .pass)) := PS.imp ps_pass fun D σ H h => by
  obtain ⟨F, en, fp, ss, h⟩ := h
  exact h σ H F fp Stp.refl ss Pr.refl
theorem ps_iffD {x : IE} {sa sb : List IS} (hc : PT X c (tDbX X W (sem x).2)) (ha : PSs X a (tSX X W P (run sa))) (hb : PSs X b (tSX X W P (run sb))) : PS X (.If c a b pos) (tSX X W P (run1 (.iff x sa sb))) := by
  refine PS.imp (ps_if hc ha hb) fun D σ H h => ?_
  obtain ⟨F, en, fp, ss, h⟩ := h
  refine tDb_st Stp.refl Pr.refl ss h fun k H1 F1 fp1 e1 s1 ss1 h1 => ?_
  cases k with
  | true => exact iteT (goS s1 Pr.refl ss1 h1)
  | false => exact iteF (goS s1 Pr.refl ss1 h1)
/-! ### loops -/
theorem ps_forD {tgt : TGt} {k : ITK} {its : List IE} {body : List Stmt} {sb : List IS} (hP : (tgt.has.all fun j => !P j) = true) (hs : PS X st (tFor (tI X.K X.mg W (itM k its)) (gOf X.K tgt) (tSX X W P (run sb)))) :
    PS X st (tSX X W P (run1 (.for_ tgt k its sb))) := by
  refine PS.imp hs fun D σ H h => ?_
  obtain ⟨F, en, fp, ss, h⟩ := h
  refine ⟨F, en, fp, ss, ?_⟩
  have h : WS X.K X.mg W P D H F fp σ ((itM k its en).st fun xs e1 => forGo tgt (run sb) xs e1) := h
  cases hm : itM k its en with
  | bad => rw [hm] at h; exact h.elim
  | exn x e1 => rw [hm] at h; exact st_xc Stp.refl Pr.refl h
  | ok xs e1 =>
    rw [hm] at h
    intro J H1 F1 fp1 s1 ss1 wk
    have h : WS X.K X.mg W P D H F fp σ (forGo tgt (run sb) xs e1) := h
    refine ⟨fun i m σ2 H2 => i ≤ xs.length ∧ m = xs.length - i ∧ ∃ F2 e2 fp2, Stp H F fp H2 F2 fp2 ∧ Same F1 F2 ∧ SS X.K X.mg H2 F2 σ2 e2 fp2 ∧ Pr P σ σ2 ∧ WS X.K X.mg W P D H F fp σ (forGo tgt (run sb) (xs.drop i) e2), ⟨xs.length, Nat.zero_le _, rfl, F1, e1, fp1, s1, Same.refl _, ss1, Pr.refl, h⟩, ?_⟩
    rintro i m σ2 H2 ⟨hi, rfl, F2, e2, fp2, s2, sf2, ss2, p2, h2⟩
    have wk2 := wk.mono sf2
    by_cases hlt : i < xs.length
    · refine .inr ⟨wk2.goes i H2 ss2.le hlt, ?_⟩
      have hd : xs.drop i = xs[i] :: xs.drop (i + 1) := List.drop_eq_getElem_cons hlt
      rw [hd] at h2
      refine ⟨fun σ3 H3 => ∃ F3 e3 fp3, Stp H F fp H3 F3 fp3 ∧ Same F1 F3 ∧ SS X.K X.mg H3 F3 σ3 e3 fp3 ∧ Pr P σ σ3 ∧ WS X.K X.mg W P D H F fp σ (forGo tgt (run sb) (xs.drop (i + 1)) e3), ?_, ?_⟩
      · rintro σ3 H3 ⟨F3, e3, fp3, k1, k2, k3, k4, k5⟩
        exact ⟨xs.length - (i + 1), by omega, hlt, rfl, F3, e3, fp3, k1, k2, k3, k4, k5⟩
      · intro x H3 hy
        obtain ⟨d, F3, hd1, st3, le3, rd⟩ := wk2.yields i H2 x H3 F2 (Same.refl _) ss2.le hlt hy
        have hd2 : xs[i] = d := Option.some.inj ((List.getElem?_eq_getElem hlt).symm.trans hd1)
        rw [hd2] at h2
        obtain ⟨k1, k2, k3⟩ := st3.held ss2.env.there (fun a _ q => nomatch q) ss2.own
        have ss3 : SS X.K X.mg H3 F3 σ2 e2 fp2 := ⟨le3, ss2.env.keep st3.fz k1, k2⟩
        have s3 : Stp H F fp H3 F3 fp2 := s2.trans (by simpa using st3.frame (gp := fp2))
        cases hb : bindT tgt d e2 with
        | none =>
          have : forGo tgt (run sb) (d :: xs.drop (i + 1)) e2 = .bad := by
            show (match bindT tgt d e2 with | none => _ | some e1 => _) = _
            rw [hb]
          rw [this] at h2
          exact h2.elim
        | some e3 =>
          have eq : forGo tgt (run sb) (d :: xs.drop (i + 1)) e2 = (run sb e3).lp (forGo tgt (run sb) (xs.drop (i + 1))) := by
            show (match bindT tgt d e2 with | none => _ | some e1 => _) = _
            rw [hb]
          rw [eq] at h2
          refine bindT_ok tgt hP rd hb ss3 fun σ3 fp3 ss4 sub3 pr3 _ => ?_
          refine ⟨F3, e3, fp3, ss4, ?_⟩
          have s4 : Stp H F fp H3 F3 fp3 := s3.sub sub3
          have p4 : Pr P σ σ3 := p2.trans pr3
          cases hr : run sb e3 with
          | bad => rw [hr] at h2; exact h2.elim
          | nx e4 => rw [hr] at h2; exact fun σ5 H5 F5 fp5 st5 ss5 p5 => ⟨F5, e4, fp5, s4.trans st5, (sf2.trans st3.fz).trans st5.fz, ss5, p4.trans p5, h2⟩
          | ct e4 => rw [hr] at h2; exact fun σ5 H5 F5 fp5 st5 ss5 p5 => ⟨F5, e4, fp5, s4.trans st5, (sf2.trans st3.fz).trans st5.fz, ss5, p4.trans p5, h2⟩
          | brk e4 => rw [hr] at h2; exact WS.step (r := .nx e4) s4 p4 h2
          | ret t e4 => rw [hr] at h2; exact WS.step (r := .ret t e4) s4 p4 h2
          | exn x e4 => rw [hr] at h2; exact WS.step (r := .exn x e4) s4 p4 h2
    · have ei : i = xs.length := by omega
      subst ei
      rw [List.drop_length] at h2
      exact .inl ⟨wk2.stops H2 ss2.le, h2 σ2 H2 F2 fp2 s2 ss2 p2⟩
theorem ps_whlD {n : Nat} {x : IE} {body : List Stmt} {sb : List IS} (hp : PassesOwn (model X.prog X.w) X.A X.env X.xe) (hc : PT X c (tDbX X W (sem x).2)) (hb : PSs X body (tSX X W P (run sb))) :
    PS X (.While c body [] pos) (tSX X W P (run1 (.whl n x sb))) := by
  refine PS.imp (ps_while hp hc hb) fun D σ H h => ?_
  obtain ⟨F, en, fp, ss, h⟩ := h
  have h : WS X.K X.mg W P D H F fp σ (whGo (sem x).2 (run sb) n en) := h
  refine ⟨fun m σ2 H2 => ∃ F2 e2 fp2, Stp H F fp H2 F2 fp2 ∧ SS X.K X.mg H2 F2 σ2 e2 fp2 ∧ Pr P σ σ2 ∧ WS X.K X.mg W P D H F fp σ (whGo (sem x).2 (run sb) m e2), ⟨n, F, en, fp, Stp.refl, ss, Pr.refl, h⟩, ?_⟩
  rintro m σ2 H2 ⟨F2, e2, fp2, s2, ss2, p2, h2⟩
  cases m with
  | zero => exact h2.elim
  | succ m =>
    have h2 : WS X.K X.mg W P D H F fp σ (((sem x).2 e2).st fun b e1 => pickB b ((run sb e1).lp (whGo (sem x).2 (run sb) m)) (.nx e1)) := h2
    refine tDb_st s2 p2 ss2 h2 fun k H3 F3 fp3 e3 s3 ss3 h3 => ?_
    cases k with
    | false => exact iteF ((show WS X.K X.mg W P D H F fp σ (.nx e3) from h3) σ2 H3 F3 fp3 (s2.trans s3) ss3 p2)
    | true =>
      have h3 : WS X.K X.mg W P D H F fp σ ((run sb e3).lp (whGo (sem x).2 (run sb) m)) := h3
      refine iteT ⟨fun σ4 H4 => ∃ F4 e4 fp4, Stp H F fp H4 F4 fp4 ∧ SS X.K X.mg H4 F4 σ4 e4 fp4 ∧ Pr P σ σ4 ∧ WS X.K X.mg W P D H F fp σ (whGo (sem x).2 (run sb) m e4), fun σ4 H4 q => ⟨m, Nat.lt_succ_self m, q⟩, F3, e3, fp3, ss3, ?_⟩
      cases hr : run sb e3 with
      | bad => rw [hr] at h3; exact h3.elim
      | nx e4 => rw [hr] at h3; exact fun σ5 H5 F5 fp5 st5 ss5 p5 => ⟨F5, e4, fp5, (s2.trans s3).trans st5, ss5, p2.trans p5, h3⟩
      | ct e4 => rw [hr] at h3; exact fun σ5 H5 F5 fp5 st5 ss5 p5 => ⟨F5, e4, fp5, (s2.trans s3).trans st5, ss5, p2.trans p5, h3⟩
      | brk e4 => rw [hr] at h3; exact WS.step (r := .nx e4) (s2.trans s3) p2 h3
      | ret t e4 => rw [hr] at h3; exact WS.step (r := .ret t e4) (s2.trans s3) p2 h3
      | exn x e4 => rw [hr] at h3; exact WS.step (r := .exn x e4) (s2.trans s3) p2 h3
end
end Rx
end

section
/-! Rx, part 10: what changes a list or a dict; a def's promise. -/
namespace Rx
open PySem PySem.Spec PyProof.Rows L2
variable [Prw]

section
variable {K : PySem.W.Frag} {mg : Str → Option Value} {W : WX} {P : Nat → Bool} {D : Ends} {σ σ0 : L2.St} {H F H' F' H1 F1 H0 F0 : Hp} {fp fp1 fp0 fpe fpv : List Addr} {e : Ev}
/-- an owned list in a slot -/
structure LsAt (K : PySem.W.Frag) (mg : Str → Option Value) (H F : Hp) (σ : L2.St) (e : Ev) (fp : List Addr) (j : Nat) (ts : List OT) (a : Addr) (vs : List V) (g rest : List Addr) : Prop where
  slot : σ[j]? = some (some (.ref a))
  obj : H a = some (.lst vs)
  few : vs.length ≤ sizeLine
  its : OTRs K mg H F vs ts g
  na : a ∉ g
  env : EvR K mg H F σ (e.set j none) rest
  all : ∀ b, b ∈ fp ↔ (b = a ∨ b ∈ g) ∨ b ∈ rest
  nr : a ∉ rest
  dis : ∀ b ∈ g, b ∉ rest
theorem SS.list {j : Nat} {ts : List OT} (ss : SS K mg H F σ e fp) (hj : e.at j = some (.lst ts)) : ∃ a vs g rest, LsAt K mg H F σ e fp j ts a vs g rest := by
  obtain ⟨v, g, rest, h1, h2, h3, h4, h5⟩ := ss.env.take hj
  cases h2 with
  | lst hl hz r n =>
    exact ⟨_, _, _, rest, h1, hl, hz, r, n, h3, fun b => by rw [h4, List.mem_cons], h5 _ List.mem_cons_self, fun b hb => h5 b (List.mem_cons_of_mem _ hb)⟩
/-- it is changed -/
theorem LsAt.put {j : Nat} {ts : List OT} {a : Addr} {vs : List V} {g rest : List Addr} (ss : SS K mg H F σ e fp) (l : LsAt K mg H F σ e fp j ts a vs g rest) {vs' : List V} {ts' : List OT} {g' : List Addr} (hz : vs'.length ≤ sizeLine)
    (r : OTRs K mg H F vs' ts' g') (n : a ∉ g') (d : ∀ b ∈ g', b ∉ rest) (ow : ∀ b ∈ g', F b = none) :
    ∃ fp', SS K mg (upd H a (.lst vs')) F σ (e.set j (some (.lst ts'))) fp' ∧ ∀ b ∈ fp', (b = a ∨ b ∈ g') ∨ b ∈ rest := by
  have na : F a = none := ss.own a ((l.all a).mpr (.inl (.inl rfl)))
  have k : ∀ {gp : List Addr}, a ∉ gp → ∀ b ∈ gp, ∀ o, H b = some o → upd H a (.lst vs') b = some o := fun {gp} hn b hb o q => by
    rw [upd_ne (fun z => hn (by rw [← z]; exact hb))]; exact q
  have r2 : OTR K mg (upd H a (.lst vs')) F (.ref a) (.lst ts') (a :: g') := .lst upd_same hz (r.keep (Same.refl _) (k n)) n
  obtain ⟨fp', h1, h2⟩ := EvR.put (l.env.keep (Same.refl _) (k l.nr)) l.slot r2 fun b hb => by
    rcases List.mem_cons.mp hb with z | z
    · rw [z]; exact l.nr
    · exact d b z
  rw [List.set_set] at h1
  have h3 : ∀ b ∈ fp', (b = a ∨ b ∈ g') ∨ b ∈ rest := fun b hb => (h2 b hb).imp (fun z => List.mem_cons.mp z) id
  refine ⟨fp', ⟨fun b o q => ?_, h1, fun b hb => ?_⟩, h3⟩
  · rw [upd_ne (fun z => by rw [z, na] at q; cases q)]; exact ss.le b o q
  · rcases h3 b hb with (z | z) | z
    · rw [z]; exact na
    · exact ow b z
    · exact ss.own b ((l.all b).mpr (.inr z))
theorem LsAt.stp {j : Nat} {ts : List OT} {a : Addr} {vs vs' : List V} {g rest : List Addr} (l : LsAt K mg H F σ e fp j ts a vs g rest) {gp : List Addr} : Stp H F (gp ++ fp) (upd H a (.lst vs')) F (gp ++ fp) := Stp.wr (List.mem_append_right _ ((l.all a).mpr (.inl (.inl rfl))))
theorem OTRs.snoc : ∀ {vs : List V} {ts : List OT} {fp g : List Addr} {v : V} {t : OT}, OTRs K mg H F vs ts fp → OTR K mg H F v t g → (∀ a ∈ g, a ∉ fp) → OTRs K mg H F (vs ++ [v]) (ts ++ [t]) (fp ++ g)
  | _, _, _, g, _, _, .nil, o, _ => by
    have : OTRs K mg H F [_] [_] (g ++ []) := .cons o .nil fun a _ z => nomatch z
    simpa using this
  | _, _, _, g, _, _, .cons (fp := f1) (fps := f2) h r n, o, d => by
    have r2 := OTRs.snoc r o fun a ha z => d a ha (List.mem_append_right _ z)
    have := OTRs.cons h r2 fun a ha z => by
      rcases List.mem_append.mp z with z | z
      · exact n a ha z
      · exact d a z (List.mem_append_left _ ha)
    rw [List.append_assoc]
    exact this
theorem OTRs.of_fz : ∀ {vs : List V} {ds : List Rx.D}, DRs K mg F vs ds → OTRs K mg H F vs (ds.map .fz) []
  | _, _, .nil => .nil
  | _, _, .cons a b => .cons (fp := []) (fps := []) (.fz a) (OTRs.of_fz b) nm
theorem OTRs.append : ∀ {vs ws : List V} {ts us : List OT} {fp : List Addr}, OTRs K mg H F vs ts fp → OTRs K mg H F ws us [] → OTRs K mg H F (vs ++ ws) (ts ++ us) fp
  | _, _, _, _, _, .nil, r => r
  | _, _, _, _, _, .cons h r n, r2 => .cons h (OTRs.append r r2) n
theorem OTRs.set : ∀ {vs : List V} {ts : List OT} {fp g : List Addr} {v : V} {t : OT} (n : Nat), OTRs K mg H F vs ts fp → OTR K mg H F v t g → (∀ a ∈ g, a ∉ fp) → ∃ fp', OTRs K mg H F (vs.set n v) (ts.set n t) fp' ∧ ∀ a ∈ fp', a ∈ g ∨ a ∈ fp
  | _, _, _, g, _, _, _, .nil, _, _ => ⟨[], .nil, fun _ z => nomatch z⟩
  | _, _, _, g, _, _, 0, .cons (fp := f1) (fps := f2) h r n, o, d => ⟨g ++ f2, .cons o r fun a ha z => d a ha (List.mem_append_right _ z), fun a ha => (List.mem_append.mp ha).imp id fun z => List.mem_append_right _ z⟩
  | _, _, _, g, _, _, i + 1, .cons (fp := f1) (fps := f2) h r n, o, d => by
    obtain ⟨fp', h1, h2⟩ := OTRs.set i r o fun a ha z => d a ha (List.mem_append_right _ z)
    refine ⟨f1 ++ fp', .cons h h1 fun a ha z => ?_, fun a ha => ?_⟩
    · rcases h2 a z with q | q
      · exact d a q (List.mem_append_left _ ha)
      · exact n a ha q
    · rcases List.mem_append.mp ha with q | q
      · exact .inr (List.mem_append_left _ q)
      · exact (h2 a q).imp id fun z => List.mem_append_right _ z
theorem OTRs.get : ∀ {vs : List V} {ts : List OT} {fp : List Addr} {n : Nat} {t : OT}, OTRs K mg H F vs ts fp → ts[n]? = some t → ∃ v g, vs[n]? = some v ∧ OTR K mg H F v t g
  | _, _, _, _, _, .nil, h => by simp at h
  | _, _, _, 0, _, .cons o r _, h => by simp at h; subst h; exact ⟨_, _, rfl, o⟩
  | _, _, _, n + 1, _, .cons o r _, h => by
    obtain ⟨v, g, h1, h2⟩ := OTRs.get (n := n) r (by simpa using h)
    exact ⟨v, g, by simpa using h1, h2⟩
theorem OTRs.erase : ∀ {vs : List V} {ts : List OT} {fp : List Addr} (n : Nat), OTRs K mg H F vs ts fp → ∃ fp', OTRs K mg H F (vs.eraseIdx n) (ts.eraseIdx n) fp' ∧ ∀ a ∈ fp', a ∈ fp
  | _, _, _, _, .nil => ⟨[], .nil, fun _ z => nomatch z⟩
  | _, _, _, 0, .cons (fp := f1) (fps := f2) h r n => ⟨f2, r, fun a z => List.mem_append_right _ z⟩
  | _, _, _, i + 1, .cons (fp := f1) (fps := f2) h r n => by
    obtain ⟨fp', h1, h2⟩ := OTRs.erase i r
    exact ⟨f1 ++ fp', .cons h h1 fun a ha z => n a ha (h2 a z), fun a ha => (List.mem_append.mp ha).elim (fun z => List.mem_append_left _ z) fun z => List.mem_append_right _ (h2 a z)⟩
theorem sizeMax_eq : sizeMax = sizeLine := sizeLine_eq.symm
theorem plc_ixN {n k : Nat} {i : Int} (h : plc n i = some k) : L2.ixN n i = some k ∧ k < n := by
  unfold plc at h
  unfold L2.ixN
  cases i with
  | ofNat m =>
    simp only at h
    split at h
    · cases h
      rename_i hm
      rw [show Int.ofNat k = (k : Int) from rfl, if_pos (by omega), if_pos (by omega)]
      exact ⟨by simp, hm⟩
    · cases h
  | negSucc m =>
    simp only at h
    split at h
    · cases h
      rename_i hm
      rw [if_neg (by omega), if_pos (by omega)]
      refine ⟨by congr 1; omega, by omega⟩
    · cases h
theorem plc_seq {n k : Nat} {i : Int} (h : plc n i = some k) : seqIndex? i n = some k ∧ -(n : Int) ≤ i ∧ i < n := by
  obtain ⟨h1, h2⟩ := plc_ixN h
  obtain ⟨a, _, b, c⟩ := L2.ixN_seq h1
  exact ⟨a, b, c⟩
end

section
variable {X : Cx} {W : WX} {P : Nat → Bool} {pos apos cpos : Pos} {st : Stmt} {rest a b : List Stmt} {e c tg iter o : Expr} {te : TE}
theorem lstAt_some {j : Nat} {en : Ev} {r : SR} {K : PySem.W.Frag} {mg : Str → Option Value} {D : Ends} {σ : L2.St} {H F : Hp} {fp : List Addr} (h : WS K mg W P D H F fp σ (lstAt j [] en r)) : ∃ ts, en.at j = some (.lst ts) ∧ WS K mg W P D H F fp σ r := by
  unfold lstAt at h
  cases hj : en.at j with
  | none => rw [hj] at h; exact h.elim
  | some t =>
    rw [hj] at h
    cases t with
    | lst ts => exact ⟨ts, rfl, h⟩
    | fz d => exact h.elim
    | dic k => exact h.elim
    | din k => exact h.elim
    | ins c f => exact h.elim
theorem updAt_nil {j : Nat} {u : OT → Option OT} {en e1 : Ev} (h : updAt j [] u en = some e1) : ∃ t t', en.at j = some t ∧ u t = some t' ∧ e1 = en.set j (some t') := by
  unfold updAt at h
  cases hj : en.at j with
  | none => rw [hj] at h; cases h
  | some t =>
    rw [hj] at h
    have h : (u t).map (fun t' => en.set j (some t')) = some e1 := by
      have : setAt en u t [] = u t := by cases t <;> rfl
      rw [← this]; exact h
    obtain ⟨t', h1, h2⟩ := Option.map_eq_some_iff.mp h
    exact ⟨t, t', rfl, h1, h2.symm⟩
theorem tyL {K : PySem.W.Frag} {H : Hp} {a : Addr} {vs : List V} (h : H a = some (.lst vs)) : tyV K "list" (.ref a) H := .inl ⟨rfl, _, SqL.of h⟩
/-- x.append(e) -/
theorem ps_appD {j : Nat} {x : IE} (hs : PS X st (tDrop (tBM X.K "list" rAppend (tVar j) (tCons te tNil)))) (hte : ∀ σ H Q, tDX X W (sem x).1 σ H Q → te σ H Q) : PS X st (tSX X W P (run1 (.app j [] x))) := by
  refine PS.imp hs fun D σ H h => ?_
  obtain ⟨F, en, fp, ss, h⟩ := h
  obtain ⟨ts0, hj, h⟩ := lstAt_some h
  obtain ⟨a0, vs0, g0, rest0, L0⟩ := ss.list hj
  refine ⟨.ref a0, L0.slot, tyL L0.obj, hte σ H _ (tD_st Stp.refl Pr.refl ss h fun v t H1 F1 fpe fpv e1 p h1 => ?_)⟩
  cases hu : updAt j [] (appO t) e1 with
  | none => rw [hu] at h1; exact h1.elim
  | some e2 =>
    rw [hu] at h1
    obtain ⟨u, u', k1, k2, rfl⟩ := updAt_nil hu
    cases u with
    | lst ts =>
      have k2 : (if ts.length < sizeMax then some (OT.lst (ts ++ [t])) else none) = some u' := k2
      split at k2
      · rename_i hlt
        cases k2
        obtain ⟨a, vs, g, rest, L⟩ := p.ss.list k1
        have ea : a = a0 := by have := L.slot; rw [L0.slot] at this; cases this; rfl
        subst ea
        have hl := L.its.length
        rw [sizeMax_eq] at hlt
        refine ⟨a, vs, v, rfl, rfl, L.obj, by omega, ?_⟩
        have hfg : ∀ b ∈ fpv, b ∉ g := fun b hb z => p.dis b hb ((L.all b).mpr (.inl (.inr z)))
        obtain ⟨fp', g1, g2⟩ := L.put p.ss (vs' := vs ++ [v]) (ts' := ts ++ [t]) (g' := g ++ fpv) (by rw [List.length_append]; show vs.length + 1 ≤ _; omega) (L.its.snoc p.val hfg) (fun z => by
          rcases List.mem_append.mp z with z | z
          · exact L.na z
          · exact p.dis a z ((L.all a).mpr (.inl (.inl rfl)))) (fun b hb z => by
          rcases List.mem_append.mp hb with q | q
          · exact L.dis b q z
          · exact p.dis b q ((L.all b).mpr (.inr z))) (fun b hb => by
          rcases List.mem_append.mp hb with q | q
          · exact p.ss.own b ((L.all b).mpr (.inl (.inr q)))
          · exact p.own b q)
        refine h1 σ _ F1 fp' ((p.st.trans L.stp).sub fun b hb => ?_) g1 Pr.refl
        rcases g2 b hb with (z | z) | z
        · exact List.mem_append_right _ ((L.all b).mpr (.inl (.inl z)))
        · rcases List.mem_append.mp z with z | z
          · exact List.mem_append_right _ ((L.all b).mpr (.inl (.inr z)))
          · exact List.mem_append_left _ z
        · exact List.mem_append_right _ ((L.all b).mpr (.inr z))
      · cases k2
    | _ => cases k2
/-- x.extend(e), e a list -/
theorem ps_extD {j : Nat} {x : IE} (hs : PS X st (tDrop (tBM X.K "list" rExtend (tVar j) (tCons te tNil)))) (hte : ∀ σ H Q, tDX X W (sem x).1 σ H Q → te σ H Q) : PS X st (tSX X W P (run1 (.ext j [] x))) := by
  refine PS.imp hs fun D σ H h => ?_
  obtain ⟨F, en, fp, ss, h⟩ := h
  obtain ⟨ts0, hj, h⟩ := lstAt_some h
  obtain ⟨a0, vs0, g0, rest0, L0⟩ := ss.list hj
  refine ⟨.ref a0, L0.slot, tyL L0.obj, hte σ H _ (tD_st Stp.refl Pr.refl ss h fun v t H1 F1 fpe fpv e1 p h1 => ?_)⟩
  obtain ⟨q1, q2, q3⟩ := p.frz
  have h1 : WS X.K X.mg W P D H F fp σ (extK t.view fun ds => ofO (updAt j [] (extO ds) e1)) := h1
  generalize t.view = d at q3 h1
  cases d with
  | lst ds =>
    have h1 : WS X.K X.mg W P D H F fp σ (ofO (updAt j [] (extO ds) e1)) := h1
    cases hu : updAt j [] (extO ds) e1 with
    | none => rw [hu] at h1; exact h1.elim
    | some e2 =>
      rw [hu] at h1
      obtain ⟨u, u', k1, k2, rfl⟩ := updAt_nil hu
      cases u with
      | lst ts =>
        have k2 : (if ts.length + ds.length ≤ sizeMax then some (OT.lst (ts ++ ds.map .fz)) else none) = some u' := k2
        split at k2
        · rename_i hlt
          cases k2
          obtain ⟨a, vs, g, rest, L⟩ := q2.list k1
          have ea : a = a0 := by have := L.slot; rw [L0.slot] at this; cases this; rfl
          subst ea
          cases q3 with
          | lst hb hz rb =>
            rename_i bb ws
            have hl := L.its.length
            have hl2 := rb.length
            rw [sizeMax_eq] at hlt
            refine ⟨a, bb, vs, ws, rfl, rfl, L.obj, q2.le _ _ hb, by omega, ?_⟩
            obtain ⟨fp', g1, g2⟩ := L.put q2 (vs' := vs ++ ws) (ts' := ts ++ ds.map .fz) (g' := g) (by rw [List.length_append]; omega) (L.its.append (OTRs.of_fz rb)) L.na L.dis (fun b hb => q2.own b ((L.all b).mpr (.inl (.inr hb))))
            refine h1 σ _ _ fp' ((q1.trans (by simpa using L.stp (gp := []))).sub fun b hb => ?_) g1 Pr.refl
            exact (L.all b).mpr (g2 b hb)
        · cases k2
      | _ => cases k2
  | _ => exact False.elim h1

/-! ### stores -/
theorem keyD_inj {k k' : Key} (h : keyD k = keyD k') : k = k' := by
  cases k with
  | inl i =>
    cases k' with
    | inl j => cases h; rfl
    | inr z => cases h
  | inr z =>
    cases k' with
    | inl j => cases h
    | inr z' =>
      have h : z.cps.toList = z'.cps.toList := by injection h
      have : z = z' := by
        cases z; cases z'
        simpa using h
      rw [this]
theorem hasK {K : PySem.W.Frag} {mg : Str → Option Value} {F : Hp} {k : Key} : ∀ {kvs : List (Key × V)} {ds : List (Rx.D × Rx.D)}, DRk K mg F kvs ds → (kvs.any fun kv => decide (kv.1 = k)) = hasD ds (keyD k)
  | _, _, .nil => rfl
  | _, _, .cons (k := k') ok r rs => by
    unfold hasD
    rw [List.any_cons, List.any_cons, hasK rs]
    congr 1
    by_cases h : k' = k
    · subst h; simp
    · have h2 : ¬ keyD k' = keyD k := fun z => h (keyD_inj z)
      simp [h, h2]
theorem mapK {K : PySem.W.Frag} {mg : Str → Option Value} {F : Hp} {k : Key} {v : V} {d : Rx.D} (rd : DR K mg F v d) : ∀ {kvs : List (Key × V)} {ds : List (Rx.D × Rx.D)}, DRk K mg F kvs ds →
    DRk K mg F (kvs.map fun kv => if kv.1 = k then (kv.1, v) else kv) (ds.map fun p => if p.1 = keyD k then (keyD k, d) else p)
  | _, _, .nil => .nil
  | _, _, .cons (k := k') ok r rs => by
    rw [List.map_cons, List.map_cons]
    by_cases h : k' = k
    · subst h
      simp only [if_true]
      exact .cons ok rd (mapK rd rs)
    · have h2 : ¬ keyD k' = keyD k := fun z => h (keyD_inj z)
      simp only [if_neg h, if_neg h2]
      exact .cons ok r (mapK rd rs)
theorem snocK {K : PySem.W.Frag} {mg : Str → Option Value} {F : Hp} {k : Key} {v : V} {d : Rx.D} (ok : keyOkS k) (rd : DR K mg F v d) : ∀ {kvs : List (Key × V)} {ds : List (Rx.D × Rx.D)}, DRk K mg F kvs ds → DRk K mg F (kvs ++ [(k, v)]) (ds ++ [(keyD k, d)])
  | _, _, .nil => .cons ok rd .nil
  | _, _, .cons ok' r rs => .cons ok' r (snocK ok rd rs)
theorem putK_ok {K : PySem.W.Frag} {mg : Str → Option Value} {F : Hp} {k : Key} {v : V} {d : Rx.D} {kvs : List (Key × V)} {ds : List (Rx.D × Rx.D)} (ok : keyOkS k) (rd : DR K mg F v d) (r : DRk K mg F kvs ds) : DRk K mg F (putK kvs k v) (putD ds (keyD k) d) := by
  unfold putK putD
  rw [hasK r]
  cases hasD ds (keyD k) with
  | true => exact mapK rd r
  | false => exact snocK ok rd r
theorem DRk.length {K : PySem.W.Frag} {mg : Str → Option Value} {F : Hp} : ∀ {kvs : List (Key × V)} {ds : List (Rx.D × Rx.D)}, DRk K mg F kvs ds → kvs.length = ds.length
  | _, _, .nil => rfl
  | _, _, .cons _ _ r => by simp [DRk.length r]
/-- a key -/
theorem key_of_DR {K : PySem.W.Frag} {mg : Str → Option Value} {F : Hp} {v : V} {d : Rx.D} (h : DR K mg F v d) (hk : (∃ i, d = .int i) ∨ ∃ s, d = .str s) : ∃ k, v = kV k ∧ d = keyD k ∧ keyOkS k := by
  rcases hk with ⟨i, rfl⟩ | ⟨s, rfl⟩
  · cases h; exact ⟨.inl i, rfl, rfl, trivial⟩
  · cases h with
    | str hl hc => exact ⟨.inr (strOf s), rfl, rfl, by simpa [strOf, Str.length] using hl, by simpa [strOf] using hc⟩
/-- o[i] = v: a list, or a dict with number or text keys -/
def rStoD (K : PySem.W.Frag) (mg : Str → Option Value) : V → V → V → Hp → (Hp → Prop) → Prop := fun o i v H Q => rSetL o i v H Q ∨ (∃ a kvs k, o = .ref a ∧ H a = some (.dK kvs) ∧ i = kV k ∧ kvs.length < sizeLine ∧ Q (upd H a (.dK (putK kvs k v)))) ∨
  ∃ (F : Hp) (a : Addr) (xs : List (D × Addr × V)) (ds : List (D × D)) (d : D) (b : Addr), o = .ref a ∧ Same F H ∧ H a = some (dNO a xs) ∧ DRn K mg F xs ds ∧ isKeyN d = true ∧ DR K mg F i d ∧ i = .ref b ∧ xs.length < sizeLine ∧ Q (upd H a (dNO a (putN xs d b v)))
theorem set_both (hP : Prw.P = X.prog) (hw : Prw.w = X.w) (hu : X.A.units + 65 < cLine) : PSet X (rStoD X.K X.mg) := by
  intro pins s σ H o i v ov iv u Q I ro ri rv h
  have hu1 : X.A.units + 1 < cLine := by omega
  rcases h with h | ⟨a, kvs, k, rfl, hd, rfl, hl, q⟩ | ⟨F, a, xs, ds, d, b, rfl, le, hd, rx, hk, rd, rfl, hl, q⟩
  · exact set_list pins s σ H o i v ov iv u Q I ro ri rv h
  · obtain rfl : ov = Value.ref a := ro
    exact d_setItem hu1 I (DPut.k hd hl) ri rv fun s' I' => ⟨_, I', q⟩
  · obtain rfl : ov = Value.ref a := ro
    exact n_set hP hw (by omega) I le hd rx hk rd ri rv hl fun b' s' e I' => by cases e; exact ⟨_, I', q⟩
end
/-! an owned dict in a slot -/
section
variable {K : PySem.W.Frag} {mg : Str → Option Value} {W : WX} {σ σ0 : L2.St} {H F : Hp} {fp : List Addr} {e : Ev}
theorem SS.dict {j : Nat} {ds : List (D × D)} (ss : SS K mg H F σ e fp) (hj : e.at j = some (.dic ds)) : ∃ a kvs rest, σ[j]? = some (some (.ref a)) ∧ H a = some (.dK kvs) ∧ DRk K mg F kvs ds ∧ EvR K mg H F σ (e.set j none) rest ∧ (∀ b, b ∈ fp ↔ b = a ∨ b ∈ rest) ∧ a ∉ rest := by
  obtain ⟨v, g, rest, h1, h2, h3, h4, h5⟩ := ss.env.take hj
  cases h2 with
  | dK hd r => exact ⟨_, _, rest, h1, hd, r, h3, fun b => by rw [h4]; simp, h5 _ List.mem_cons_self⟩
theorem SS.putDict {j : Nat} {ds' : List (D × D)} {a : Addr} {kvs' : List (Key × V)} {rest : List Addr} (ss : SS K mg H F σ e fp) (hs : σ[j]? = some (some (.ref a))) (he : EvR K mg H F σ (e.set j none) rest) (ha : ∀ b, b ∈ fp ↔ b = a ∨ b ∈ rest) (hn : a ∉ rest)
    (r : DRk K mg F kvs' ds') : ∃ fp', SS K mg (upd H a (.dK kvs')) F σ (e.set j (some (.dic ds'))) fp' ∧ ∀ b ∈ fp', b ∈ fp := by
  have na : F a = none := ss.own a ((ha a).mpr (.inl rfl))
  have k : ∀ b ∈ rest, ∀ o, H b = some o → upd H a (.dK kvs') b = some o := fun b hb o q => by
    rw [upd_ne (fun z => hn (by rw [← z]; exact hb))]; exact q
  have r2 : OTR K mg (upd H a (.dK kvs')) F (.ref a) (.dic ds') [a] := .dK upd_same r
  obtain ⟨fp', h1, h2⟩ := EvR.put (he.keep (Same.refl _) k) hs r2 fun b hb => by
    have : b = a := by simpa using hb
    rw [this]; exact hn
  rw [List.set_set] at h1
  have h3 : ∀ b ∈ fp', b ∈ fp := fun b hb => (ha b).mpr ((h2 b hb).imp (fun z => by simpa using z) id)
  refine ⟨fp', ⟨fun b o q => ?_, h1, fun b hb => ss.own b (h3 b hb)⟩, h3⟩
  rw [upd_ne (fun z => by rw [z, na] at q; cases q)]; exact ss.le b o q
theorem SS.dictN {j : Nat} {ds : List (D × D)} (ss : SS K mg H F σ e fp) (hj : e.at j = some (.din ds)) : ∃ a xs rest, σ[j]? = some (some (.ref a)) ∧ H a = some (dNO a xs) ∧ DRn K mg F xs ds ∧ EvR K mg H F σ (e.set j none) rest ∧ (∀ b, b ∈ fp ↔ b = a ∨ b ∈ rest) ∧ a ∉ rest := by
  obtain ⟨v, g, rest, h1, h2, h3, h4, h5⟩ := ss.env.take hj
  cases h2 with
  | dN hd r => exact ⟨_, _, rest, h1, hd, r, h3, fun b => by rw [h4]; simp, h5 _ List.mem_cons_self⟩
theorem SS.putDictN {j : Nat} {ds' : List (D × D)} {a : Addr} {xs' : List (D × Addr × V)} {rest : List Addr} (ss : SS K mg H F σ e fp) (hs : σ[j]? = some (some (.ref a))) (he : EvR K mg H F σ (e.set j none) rest) (ha : ∀ b, b ∈ fp ↔ b = a ∨ b ∈ rest) (hn : a ∉ rest)
    (r : DRn K mg F xs' ds') : ∃ fp', SS K mg (upd H a (dNO a xs')) F σ (e.set j (some (.din ds'))) fp' ∧ ∀ b ∈ fp', b ∈ fp := by
  have na : F a = none := ss.own a ((ha a).mpr (.inl rfl))
  have k : ∀ b ∈ rest, ∀ o, H b = some o → upd H a (dNO a xs') b = some o := fun b hb o q => by
    rw [upd_ne (fun z => hn (by rw [← z]; exact hb))]; exact q
  have r2 : OTR K mg (upd H a (dNO a xs')) F (.ref a) (.din ds') [a] := .dN upd_same r
  obtain ⟨fp', h1, h2⟩ := EvR.put (he.keep (Same.refl _) k) hs r2 fun b hb => by
    have : b = a := by simpa using hb
    rw [this]; exact hn
  rw [List.set_set] at h1
  have h3 : ∀ b ∈ fp', b ∈ fp := fun b hb => (ha b).mpr ((h2 b hb).imp (fun z => by simpa using z) id)
  refine ⟨fp', ⟨fun b o q => ?_, h1, fun b hb => ss.own b (h3 b hb)⟩, h3⟩
  rw [upd_ne (fun z => by rw [z, na] at q; cases q)]; exact ss.le b o q
end
section
variable {X : Cx} {W : WX} {P : Nat → Bool} {pos apos cpos : Pos} {st : Stmt} {rest a b : List Stmt} {e c tg iter o : Expr} {te ti : TE}
/-- x[k] = e -/
theorem ps_stoD {j : Nat} {xk x : IE} (hs : PS X st (tAsg te (gSub (tVar j) (tOX X W xk (sem xk).1) (rStoD X.K X.mg)))) (hte : ∀ σ H Q, tDX X W (sem x).1 σ H Q → te σ H Q) : PS X st (tSX X W P (run1 (.sto j [] xk x))) := by
  refine PS.imp hs fun D σ H h => ?_
  obtain ⟨F, en, fp, ss, h⟩ := h
  have h : WS X.K X.mg W P D H F fp σ (((sem x).1 en).st fun t e1 => ((M.bind (M.get j) fun _ => M.bind (opd xk (sem xk).1) fun r => fin xk r) e1).st fun d e2 => ofO (updAt j [] (stoO d t) e2)) := h
  refine hte σ H _ (tD_st Stp.refl Pr.refl ss h fun v t H1 F1 fpe fpv e1 p h1 => ?_)
  cases hj : e1.at j with
  | none => simp only [M.bind_app, M.get, hj] at h1; exact h1.elim
  | some t0 =>
    have h1 : WS X.K X.mg W P D H F fp σ ((opd xk (sem xk).1 e1).st fun r e2 => (fin xk r e2).st fun d e3 => ofO (updAt j [] (stoO d t) e3)) := by
      simp only [M.bind_app, M.get, hj, R.bind] at h1
      cases hm : opd xk (sem xk).1 e1 with
      | bad => rw [hm] at h1; exact h1
      | exn x1 e2 => rw [hm] at h1; exact h1
      | ok r e2 => rw [hm] at h1; exact h1
    obtain ⟨o, _, ho, _, _⟩ := p.ss.env.at hj
    refine ⟨o, ho, opd_st p.st Pr.refl p.ss h1 fun i H2 F2 fp2 r e2 st2 ss2 oh h2 => ?_⟩
    obtain ⟨k1, k2, k3⟩ := st2.held p.val.there p.dis p.own
    have val2 : OTR X.K X.mg H2 F2 v t fpv := p.val.keep st2.fz k1
    have st : Stp H F fp H2 F2 (fpv ++ fp2) := p.st.trans st2.frameL
    -- the key's data
    have hk : ∃ d, PR X.K X.mg H2 F2 i d ∧ WS X.K X.mg W P D H F fp σ (ofO (updAt j [] (stoO d t) e2)) := by
      have q : WP X.K X.mg W σ H2 F2 fp2 ((fin xk r e2).bind fun d e3 => R.ok (d, e3) e3) (fun q _ => WS X.K X.mg W P D H F fp σ (ofO (updAt j [] (stoO q.1 t) q.2))) := by
        rcases fin_state (x := xk) (r := r) (en := e2) with z | ⟨d, z⟩
        · rw [z] at h2; exact h2.elim
        · rw [z] at h2 ⊢; exact h2
      obtain ⟨d, p1, p2⟩ := fin_use ss2 oh q
      exact ⟨d, p1, p2⟩
    obtain ⟨d, pd, h3⟩ := hk
    cases hu : updAt j [] (stoO d t) e2 with
    | none => rw [hu] at h3; exact h3.elim
    | some e3 =>
      rw [hu] at h3
      obtain ⟨u, u', a1, a2, rfl⟩ := updAt_nil hu
      cases u with
      | lst ts =>
        cases d with
        | int n =>
          have a2 : (plc ts.length n).map (fun m => OT.lst (ts.set m t)) = some u' := a2
          obtain ⟨m, b1, b2⟩ := Option.map_eq_some_iff.mp a2
          subst b2
          obtain ⟨a, vs, g, rest, L⟩ := ss2.list a1
          have ea : o = .ref a := by have := L.slot; rw [ho] at this; cases this; rfl
          subst ea
          have ei : i = .int n := by
            have q := pd.all ss2.le
            cases q; rfl
          subst ei
          have hl := L.its.length
          have hfg : ∀ b ∈ fpv, b ∉ g := fun b hb z => k3 b hb ((L.all b).mpr (.inl (.inr z)))
          obtain ⟨g', c1, c2⟩ := L.its.set m val2 hfg
          refine .inl ⟨a, vs, n, m, rfl, rfl, L.obj, by rw [hl]; exact (plc_ixN b1).1, ?_⟩
          obtain ⟨fp', g1, g2⟩ := L.put ss2 (vs' := vs.set m v) (ts' := ts.set m t) (g' := g') (by rw [List.length_set]; exact L.few) c1 (fun z => by
            rcases c2 a z with z | z
            · exact k3 a z ((L.all a).mpr (.inl (.inl rfl)))
            · exact L.na z) (fun b hb z => by
            rcases c2 b hb with q | q
            · exact k3 b q ((L.all b).mpr (.inr z))
            · exact L.dis b q z) (fun b hb => by
            rcases c2 b hb with q | q
            · exact k2 b q
            · exact ss2.own b ((L.all b).mpr (.inl (.inr q))))
          refine h3 σ _ F2 fp' ((st.trans L.stp).sub fun b hb => ?_) g1 Pr.refl
          rcases g2 b hb with (z | z) | z
          · exact List.mem_append_right _ ((L.all b).mpr (.inl (.inl z)))
          · rcases c2 b z with z | z
            · exact List.mem_append_left _ z
            · exact List.mem_append_right _ ((L.all b).mpr (.inl (.inr z)))
          · exact List.mem_append_right _ ((L.all b).mpr (.inr z))
        | _ => cases a2
      | dic ds =>
        cases t with
        | fz vd =>
          have a2 : (if isKey d = true ∧ ds.length < sizeMax then some (OT.dic (putD ds d vd)) else none) = some u' := a2
          split at a2
          · rename_i hc
            cases a2
            obtain ⟨a, kvs, rest, b1, b2, b3, b4, b5, b6⟩ := ss2.dict a1
            have ea : o = .ref a := by rw [ho] at b1; cases b1; rfl
            subst ea
            have hkd : (∃ n, d = .int n) ∨ ∃ s, d = .str s := by
              cases d with
              | int n => exact .inl ⟨n, rfl⟩
              | str s => exact .inr ⟨s, rfl⟩
              | _ => exact absurd hc.1 (by simp [isKey])
            have pdF : DR X.K X.mg F2 i d := by
              rcases hkd with ⟨n, rfl⟩ | ⟨s, rfl⟩
              · cases pd with
                | fz q => exact q
              · cases pd with
                | fz q => exact q
            obtain ⟨k, rfl, rfl, ok⟩ := key_of_DR pdF hkd
            cases val2 with
            | fz rv =>
              obtain ⟨fp', g1, g2⟩ := ss2.putDict b1 b4 b5 b6 (putK_ok ok rv b3)
              have hl := b3.length
              refine .inr (.inl ⟨a, kvs, k, rfl, b2, rfl, by have := hc.2; rw [sizeMax_eq] at this; omega, ?_⟩)
              have st3 : Stp H F fp (upd H2 a (.dK (putK kvs k v))) F2 fp' := (st.trans (Stp.wr (List.mem_append_right _ ((b5 a).mpr (.inl rfl))))).sub fun b hb => List.mem_append_right _ (g2 b hb)
              exact h3 σ _ F2 fp' st3 g1 Pr.refl
          · cases a2
        | _ => cases a2
      | din ds =>
        cases t with
        | fz vd =>
          have a2 : (if isKeyN d = true ∧ ds.length < sizeMax then some (OT.din (putD ds d vd)) else none) = some u' := a2
          split at a2
          · rename_i hc
            cases a2
            obtain ⟨a, xs, rest, b1, b2, b3, b4, b5, b6⟩ := ss2.dictN a1
            have ea : o = .ref a := by rw [ho] at b1; cases b1; rfl
            subst ea
            have pdF : DR X.K X.mg F2 i d := by
              have hk := hc.1
              cases pd with
              | fz q => exact q
              | lst => cases hk
              | dK => cases hk
              | dN => cases hk
            obtain ⟨qb, rfl⟩ : ∃ qb, i = .ref qb := by
              have hk := hc.1
              cases pdF <;> first | exact ⟨_, rfl⟩ | cases hk
            cases val2 with
            | fz rv =>
              obtain ⟨fp', g1, g2⟩ := ss2.putDictN b1 b4 b5 b6 (DRn.put hc.1 pdF rv b3)
              have hl := b3.length
              refine .inr (.inr ⟨F2, a, xs, ds, d, qb, rfl, ss2.le, b2, b3, hc.1, pdF, rfl, by have := hc.2; rw [sizeMax_eq] at this; omega, ?_⟩)
              have st4 : Stp H F fp (upd H2 a (dNO a (putN xs d qb v))) F2 fp' := (st.trans (Stp.wr (List.mem_append_right _ ((b5 a).mpr (.inl rfl))))).sub fun b hb => List.mem_append_right _ (g2 b hb)
              exact h3 σ _ F2 fp' st4 g1 Pr.refl
          · cases a2
        | _ => cases a2
      | fz _ => cases a2
      | ins _ _ => cases a2
end
end Rx
end

section
/-! Rx, part 11: operations on values. -/
section
set_option maxHeartbeats 4000000
namespace L2
open PySem PySem.Spec PyProof.Rows
theorem tuple_mul1W (l : Addr) (items : Array Value) (n : Nat) (dd : Option Addr) (sl : Array (Option Value)) (u : Tok) :
    Meets (Builtin.«tuple.__mul__» ⟨[.ref l, .int 1 u], []⟩) (fun _ R s => s.heap.get? l = some { cls := .type "tuple", dict := dd, data := .seq items n, slots := sl } ∧
      R (.ok (.ret (Value.ref l))) s) :=
  .of_wp fun prog w A R s h => by
    obtain ⟨hp, g, d, tk, os⟩ := s
    obtain ⟨hl, h⟩ := h
    have f1 := AutoSeq1.idx_int
    wp_walk using wpAny_loadPart' hl
    all_goals first | exact ⟨_, rfl, h⟩ | skip
def rRep1 (K : PySem.W.Frag) : R2 := fun x y H Q => ∃ l xs, x = .ref l ∧ y = .int 1 ∧ SqT K H l xs ∧ Q (.ref l) H
section
variable {X : Cx}
theorem op_rep1 : OpR X (binaryOp .Mult) (rRep1 X.K) := by
  intro pins s σ H x y v u Q I rx ry h
  obtain ⟨l, xs, rfl, rfl, hT, q⟩ := h
  cases rx
  obtain ⟨t, rfl⟩ := ry
  obtain ⟨its, r, ⟨⟨cls, dd, data, sl⟩, ho, hc, n, hd⟩, hs⟩ := I.tuple hT
  simp only at hc hd
  subst hc hd
  refine wpAny_binaryOp_repeat_ref (T := "tuple") (U := "int") (by decide) ⟨_, ho, rfl⟩ (fun s' => typeIs_int s' 1 t) noFill_tuple_mul F.fills_int_mul F.slot_int_rmul repeat_tuple F.slot_int_index.lookup
    (call_meets F.slot_int_rmul (typeIs_int s 1 t) F.entry_int_rmul (F.args_int_rmul_2 _ _) (int_rmul_tuple 1 t l its.toArray n dd sl)
      ⟨ho, rfl, ⟨_, ho, rfl⟩, call_meets F.slot_tuple_mul ⟨_, ho, rfl⟩ F.entry_tuple_mul (F.args_tuple_mul_2 _ _) (tuple_mul1W l its.toArray n dd sl t) ⟨ho, ?_⟩⟩)
  exact ⟨.ref l, H, I, rfl, q⟩
end
end L2
end
namespace Rx
open PySem PySem.Spec PyProof.Rows L2
variable [Prw]

section
variable {X : Cx} {mg : Str → Option Value}
theorem same_up {H : Hp} {p : Addr} {o : HO} (h : H p = none) : Same H (upd H p o) := fun b x e => by
  rw [upd_ne (ne_of_none e h)]
  exact e
theorem DRs.app {K : PySem.W.Frag} {mg : Str → Option Value} {F : Hp} {ws : List V} {es : List D} (r2 : DRs K mg F ws es) : ∀ {vs : List V} {ds : List D}, DRs K mg F vs ds → DRs K mg F (vs ++ ws) (ds ++ es)
  | _, _, .nil => r2
  | _, _, .cons h r => .cons h (DRs.app r2 r)
theorem strOf_app (x y : List Nat) : strOf x ++ strOf y = strOf (x ++ y) := by
  show (⟨x.toArray ++ y.toArray⟩ : Str) = ⟨(x ++ y).toArray⟩
  simp
theorem strOf_len (x : List Nat) : (strOf x).length = x.length := rfl
theorem OpR.mk2 {f : Value → Value → Sem Value} {g : D → D → Option OT} {r : R2} (ho : OpR X f r) (h : ∀ F H x y d1 d2 t Q, Same F H → PR X.K X.mg H F x d1 → PR X.K X.mg H F y d2 → DR X.K X.mg H x d1 → DR X.K X.mg H y d2 → g d1 d2 = some t → FinP X.K X.mg H F t Q → r x y H Q) : OpD X f g := by
  intro pins s σ H x y v u Q I rx ry q
  obtain ⟨F, d1, d2, t, le, p1, p2, e, q⟩ := q
  exact ho pins s σ H x y v u Q I rx ry (h F H x y d1 d2 t Q le p1 p2 (p1.all le) (p2.all le) e q)
/-- by cases on the operands: each case has its own rule -/
theorem OpD.cases {f : Value → Value → Sem Value} {g : D → D → Option OT} (h : ∀ d1 d2 t, g d1 d2 = some t → ∃ r, OpR X f r ∧ ∀ F H x y Q, Same F H → PR X.K X.mg H F x d1 → PR X.K X.mg H F y d2 → DR X.K X.mg H x d1 → DR X.K X.mg H y d2 → FinP X.K X.mg H F t Q → r x y H Q) : OpD X f g := by
  intro pins s σ H x y v u Q I rx ry q
  obtain ⟨F, d1, d2, t, le, p1, p2, e, q⟩ := q
  obtain ⟨r, ho, k⟩ := h d1 d2 t e
  exact ho pins s σ H x y v u Q I rx ry (k F H x y Q le p1 p2 (p1.all le) (p2.all le) q)
theorem FinP.int {F H : Hp} {i : Int} {Q : VK} (q : FinP X.K X.mg H F (.fz (.int i)) Q) (le : Same F H) : Q (.int i) H := q.same le (.int i)
theorem FinP.bl {F H : Hp} {i : Bool} {Q : VK} (q : FinP X.K X.mg H F (.fz (.bl i)) Q) (le : Same F H) : Q (.bl i) H := q.same le (.bl i)
theorem PR.frz {K : PySem.W.Frag} {mg : Str → Option Value} {H F : Hp} {a : Addr} {xs : List D} (p : PR K mg H F (.ref a) (.tup xs)) : DR K mg F (.ref a) (.tup xs) := by
  cases p with
  | fz h => exact h
theorem PR.items {K : PySem.W.Frag} {mg : Str → Option Value} {H F : Hp} {v : V} {xs : List D} (le : Same F H) (p : PR K mg H F v (.lst xs)) : ∃ a vs, v = .ref a ∧ H a = some (.lst vs) ∧ vs.length ≤ sizeLine ∧ DRs K mg F vs xs := by
  cases p with
  | fz h => cases h with
    | lst h1 h2 h3 => exact ⟨_, _, rfl, le _ _ h1, h2, h3⟩
  | lst h1 h2 h3 => exact ⟨_, _, rfl, h1, h2, h3⟩
theorem PR.tups {K : PySem.W.Frag} {mg : Str → Option Value} {H F : Hp} {v : V} {xs : List D} (le : Same F H) (p : PR K mg H F v (.tup xs)) : ∃ a vs, v = .ref a ∧ SqT K H a vs ∧ vs.length ≤ sizeLine ∧ DRs K mg F vs xs ∧ DR K mg F (.ref a) (.tup xs) := by
  cases p with
  | fz h => cases h with
    | tup h1 h2 h3 => exact ⟨_, _, rfl, Same.seqT le h1, h2, h3, .tup h1 h2 h3⟩
/-! ### arithmetic -/
theorem od_add : OpD X (binaryOp .Add) addD := OpD.cases fun d1 d2 t e => by
  cases d1 <;> cases d2 <;> first | (cases e; done) | skip
  case int.int i j =>
    cases e
    refine ⟨_, op_add, fun F H x y Q le p1 p2 r1 r2 q => ?_⟩
    cases r1; cases r2
    exact ⟨_, _, rfl, rfl, q.int le⟩
  case str.str a b =>
    unfold addD at e
    by_cases hz : a.length + b.length ≤ sizeMax
    · simp only [if_pos hz, Option.some.injEq] at e
      subst e
      refine ⟨_, op_add_str, fun F H x y Q le p1 p2 r1 r2 q => ?_⟩
      cases r1 with
      | str l1 c1 =>
        cases r2 with
        | str l2 c2 =>
          refine ⟨_, _, rfl, rfl, hz, ?_⟩
          rw [strOf_app]
          exact q.same le (.str (by rw [List.length_append]; exact hz) fun c hc => (List.mem_append.mp hc).elim (c1 c) (c2 c))
    · simp only [if_neg hz, reduceCtorEq] at e
  case lst.lst a b =>
    unfold addD at e
    by_cases hz : a.length + b.length ≤ sizeMax
    · simp only [if_pos hz, Option.some.injEq] at e
      subst e
      refine ⟨_, op_cat, fun F H x y Q le p1 p2 r1 r2 q => ?_⟩
      obtain ⟨l1, v1, rfl, h1, z1, s1⟩ := p1.items le
      obtain ⟨l2, v2, rfl, h2, z2, s2⟩ := p2.items le
      have hl : v1.length + v2.length ≤ sizeLine := by
        rw [s1.length, s2.length]; exact hz
      exact ⟨l1, l2, v1, v2, rfl, rfl, h1, h2, hl, fun p hp => q.newL le hp (s2.app s1) (by rw [List.length_append]; exact hl)⟩
    · simp only [if_neg hz, reduceCtorEq] at e
  case tup.tup a b =>
    unfold addD at e
    by_cases hz : a.length + b.length ≤ sizeMax
    · simp only [if_pos hz, Option.some.injEq] at e
      subst e
      refine ⟨_, op_catA, fun F H x y Q le p1 p2 r1 r2 q => ?_⟩
      obtain ⟨l1, v1, rfl, h1, z1, s1, f1⟩ := p1.tups le
      obtain ⟨l2, v2, rfl, h2, z2, s2, f2⟩ := p2.tups le
      have hl : v1.length + v2.length ≤ sizeLine := by
        rw [s1.length, s2.length]; exact hz
      refine ⟨l1, l2, v1, v2, rfl, rfl, h1, h2, hl, fun z => ?_, fun _ z => ?_, fun _ _ p hp => ?_⟩
      · subst z
        cases s1
        exact q.same le f2
      · subst z
        cases s2
        rw [List.append_nil] at q
        exact q.same le f1
      · refine q.new le hp (.tup (.inl (.inl upd_same)) (by rw [List.length_append]; exact hl) ?_)
        exact DRs.mono (same_up (Same.free le hp)) (s2.app s1)
    · simp only [if_neg hz, reduceCtorEq] at e
theorem od_sub : OpD X (binaryOp .Sub) subD := OpD.cases fun d1 d2 t e => by
  cases d1 <;> cases d2 <;> cases e
  refine ⟨_, op_sub, fun F H x y Q le p1 p2 r1 r2 q => ?_⟩
  cases r1; cases r2
  exact ⟨_, _, rfl, rfl, q.int le⟩
theorem DRs.repl {K : PySem.W.Frag} {mg : Str → Option Value} {F : Hp} {vs : List V} {ds : List D} (r : DRs K mg F vs ds) : ∀ n : Nat, DRs K mg F (List.replicate n vs).flatten (List.replicate n ds).flatten
  | 0 => .nil
  | n + 1 => by
    simp only [List.replicate_succ, List.flatten_cons]
    exact DRs.app (DRs.repl r n) r
theorem od_mul : OpD X (binaryOp .Mult) mulD := OpD.cases fun d1 d2 t e => by
  cases d1 <;> cases d2 <;> first | (cases e; done) | skip
  case int.int i j =>
    unfold mulD at e
    by_cases hz : i.natAbs < 18446744073709551616 ∨ j.natAbs < 18446744073709551616
    · simp only [if_pos hz, Option.some.injEq] at e
      subst e
      refine ⟨_, op_mul, fun F H x y Q le p1 p2 r1 r2 q => ?_⟩
      cases r1; cases r2
      exact ⟨_, _, rfl, rfl, hz.imp (fun h => by constructor <;> omega) (fun h => by constructor <;> omega), q.int le⟩
    · simp only [if_neg hz, reduceCtorEq] at e
  case lst.int xs k =>
    unfold mulD at e
    by_cases hz : -9223372036854775808 ≤ k ∧ k < 9223372036854775808 ∧ xs.length * k.toNat ≤ sizeMax
    · simp only [if_pos hz, Option.some.injEq] at e
      subst e
      refine ⟨_, op_rep, fun F H x y Q le p1 p2 r1 r2 q => ?_⟩
      obtain ⟨a, vs, rfl, h1, h2, h3⟩ := p1.items le
      cases r2
      have hl : vs.length = xs.length := by
        have : ∀ {vs : List V} {ds : List D}, DRs X.K X.mg F vs ds → vs.length = ds.length := fun {vs} => by
          induction vs with
          | nil => intro ds r; cases r; rfl
          | cons v vs ih => intro ds r; cases r with | cons a b => exact congrArg (· + 1) (ih b)
        exact this h3
      have hzz : vs.length * k.toNat ≤ sizeLine := by rw [hl]; exact hz.2.2
      refine ⟨a, k, vs, rfl, rfl, h1, by omega, by omega, hzz, fun p hp => q.newL le hp (h3.repl _) ?_⟩
      rw [PyProof.Rows.lm_len_rep_flat, Nat.mul_comm]; exact hzz
    · simp only [if_neg hz, reduceCtorEq] at e
  case tup.int xs k =>
    unfold mulD at e
    by_cases hk1 : k = 1
    · subst hk1
      simp only [if_true, Option.some.injEq] at e
      subst e
      refine ⟨_, op_rep1, fun F H x y Q le p1 p2 r1 r2 q => ?_⟩
      obtain ⟨a, vs, rfl, h1, h2, h3, h4⟩ := p1.tups le
      cases r2
      exact ⟨a, vs, rfl, rfl, h1, q.same le h4⟩
    simp only [if_neg hk1] at e
    by_cases hz : xs ≠ [] ∧ 2 ≤ k ∧ k ≤ 1000 ∧ xs.length ≤ 1000
    · simp only [if_pos hz, Option.some.injEq] at e
      subst e
      refine ⟨_, op_repT, fun F H x y Q le p1 p2 r1 r2 q => ?_⟩
      obtain ⟨a, vs, rfl, h1, h2, h3, _⟩ := p1.tups le
      cases r2
      have hl : vs.length = xs.length := by
        have : ∀ {vs : List V} {ds : List D}, DRs X.K X.mg F vs ds → vs.length = ds.length := fun {vs} => by
          induction vs with
          | nil => intro ds r; cases r; rfl
          | cons v vs ih => intro ds r; cases r with | cons a b => exact congrArg (· + 1) (ih b)
        exact this h3
      have hzz : (List.replicate k.toNat vs).flatten.length ≤ sizeLine := by
        rw [PyProof.Rows.lm_len_rep_flat, sizeLine_eq, hl]
        have a1 : k.toNat * xs.length ≤ 1000 * 1000 := Nat.mul_le_mul (by omega) hz.2.2.2
        omega
      refine ⟨a, k, vs, rfl, rfl, h1, fun z => ?_, hz.2.1, hz.2.2.1, by rw [hl]; exact hz.2.2.2, fun p hp => q.new le hp (.tup (.inl (.inl upd_same)) hzz (DRs.mono (same_up (Same.free le hp)) (h3.repl _)))⟩
      have : xs.length = 0 := by rw [← hl, z]; rfl
      exact hz.1 (List.eq_nil_of_length_eq_zero this)
    · simp only [if_neg hz, reduceCtorEq] at e
theorem od_fdiv : OpD X (binaryOp .FloorDiv) fdivD := OpD.cases fun d1 d2 t e => by
  cases d1 <;> cases d2 <;> first | (cases e; done) | skip
  rename_i i j
  unfold fdivD at e
  by_cases hz : 0 < j ∧ j < 1073741824
  · simp only [if_pos hz, Option.some.injEq] at e
    subst e
    refine ⟨_, op_fdiv, fun F H x y Q le p1 p2 r1 r2 q => ?_⟩
    cases r1; cases r2
    exact ⟨_, _, rfl, rfl, hz, q.int le⟩
  · simp only [if_neg hz, reduceCtorEq] at e
theorem od_mod : OpD X (binaryOp .Mod) modD := OpD.cases fun d1 d2 t e => by
  cases d1 <;> cases d2 <;> first | (cases e; done) | skip
  rename_i i j
  unfold modD at e
  by_cases hz : 0 < j
  · simp only [if_pos hz, Option.some.injEq] at e
    subst e
    refine ⟨_, op_mod, fun F H x y Q le p1 p2 r1 r2 q => ?_⟩
    cases r1; cases r2
    exact ⟨_, _, rfl, rfl, hz, q.int le⟩
  · simp only [if_neg hz, reduceCtorEq] at e
theorem od_pow : OpD X (binaryOp .Pow) powD := OpD.cases fun d1 d2 t e => by
  cases d1 <;> cases d2 <;> first | (cases e; done) | skip
  rename_i i j
  unfold powD at e
  by_cases hz : 0 ≤ j ∧ j ≤ 1000000 ∧ i.natAbs < 2 ^ 64
  · simp only [if_pos hz, Option.some.injEq] at e
    subst e
    refine ⟨_, op_pow, fun F H x y Q le p1 p2 r1 r2 q => ?_⟩
    cases r1; cases r2
    exact ⟨_, _, rfl, rfl, hz, q.int le⟩
  · simp only [if_neg hz, reduceCtorEq] at e
/-! ### comparisons -/
theorem od_lt : OpD X (compareOp .Lt) (bl2 ltD) := OpD.cases fun d1 d2 t e => by
  cases d1 <;> cases d2 <;> cases e
  refine ⟨_, op_lt, fun F H x y Q le p1 p2 r1 r2 q => ?_⟩
  cases r1; cases r2
  exact ⟨_, _, rfl, rfl, q.bl le⟩
theorem od_le : OpD X (compareOp .LtE) (bl2 leD) := OpD.cases fun d1 d2 t e => by
  cases d1 <;> cases d2 <;> cases e
  refine ⟨_, op_le, fun F H x y Q le p1 p2 r1 r2 q => ?_⟩
  cases r1; cases r2
  exact ⟨_, _, rfl, rfl, q.bl le⟩
theorem od_gt : OpD X (compareOp .Gt) (bl2 gtD) := OpD.cases fun d1 d2 t e => by
  cases d1 <;> cases d2 <;> cases e
  refine ⟨_, op_gt, fun F H x y Q le p1 p2 r1 r2 q => ?_⟩
  cases r1; cases r2
  exact ⟨_, _, rfl, rfl, q.bl le⟩
theorem od_ge : OpD X (compareOp .GtE) (bl2 geD) := OpD.cases fun d1 d2 t e => by
  cases d1 <;> cases d2 <;> cases e
  refine ⟨_, op_ge, fun F H x y Q le p1 p2 r1 r2 q => ?_⟩
  cases r1; cases r2
  exact ⟨_, _, rfl, rfl, q.bl le⟩
end
/-! ### equality -/
mutual
def toPy : D → PyData
  | .non => .none
  | .bl b => .bool b
  | .int i => .int i
  | .str s => .str (strOf s)
  | .tup xs => .tuple (toPys xs)
  | .lst xs => .list (toPys xs)
  | _ => .none
def toPys : List D → List PyData
  | [] => []
  | x :: xs => toPy x :: toPys xs
end
theorem strOf_beq (x y : List Nat) : (strOf x == strOf y) = (x == y) := by
  rw [Bool.eq_iff_iff, beq_iff_eq, beq_iff_eq]
  constructor
  · intro h
    have : (strOf x).cps.toList = (strOf y).cps.toList := by rw [h]
    simpa [strOf] using this
  · intro h; rw [h]
mutual
theorem eqv_py : ∀ (n m : Nat) (a b : D), D.eqok n a = true → D.eqok m b = true → PyData.eqv (toPy a) (toPy b) = D.eqv a b
  | n, m, .non, b, _, h => by cases b <;> first | rfl | (cases m <;> cases h)
  | n, m, .bl x, b, _, h => by cases b <;> first | rfl | (cases m <;> cases h)
  | n, m, .int x, b, _, h => by cases b <;> first | rfl | (cases m <;> cases h)
  | n, m, .str x, b, _, h => by
    cases b <;> first | rfl | (cases m <;> cases h; done) | skip
    rename_i y
    simp only [toPy, PyData.eqv, D.eqv]
    exact strOf_beq x y
  | 0, m, .tup xs, b, h, _ => by cases h
  | 0, m, .lst xs, b, h, _ => by cases h
  | n + 1, 0, .tup xs, b, h, h2 => by cases b <;> first | rfl | cases h2
  | n + 1, 0, .lst xs, b, h, h2 => by cases b <;> first | rfl | cases h2
  | n + 1, m + 1, .tup xs, b, h, h2 => by
    cases b <;> first | rfl | (cases h2; done) | skip
    rename_i ys
    simp only [toPy, PyData.eqv, D.eqv]
    exact eqvs_py n m xs ys h h2
  | n + 1, m + 1, .lst xs, b, h, h2 => by
    cases b <;> first | rfl | (cases h2; done) | skip
    rename_i ys
    simp only [toPy, PyData.eqv, D.eqv]
    exact eqvs_py n m xs ys h h2
  | n, m, .lk xs, b, h, _ => by cases n <;> cases h
  | n, m, .dic xs, b, h, _ => by cases n <;> cases h
  | n, m, .ins _ _, b, h, _ => by cases n <;> cases h
  | n, m, .fn _, b, h, _ => by cases n <;> cases h
  | n, m, .adr _, b, h, _ => by cases n <;> cases h
  | n, m, .ali _ _, b, h, _ => by cases n <;> cases h
  | n, m, .tpn _, b, h, _ => by cases n <;> cases h
  | n, m, .din _, b, h, _ => by cases n <;> cases h
theorem eqvs_py : ∀ (n m : Nat) (xs ys : List D), D.eqoks n xs = true → D.eqoks m ys = true → PyData.eqvAll (toPys xs) (toPys ys) = D.eqvs xs ys
  | n, m, [], [], _, _ => rfl
  | n, m, [], _ :: _, _, _ => rfl
  | n, m, _ :: _, [], _, _ => rfl
  | n, m, x :: xs, y :: ys, h, h2 => by
    simp only [D.eqoks, Bool.and_eq_true] at h h2
    simp only [toPys, PyData.eqvAll, D.eqvs, eqv_py n m x y h.1 h2.1, eqvs_py n m xs ys h.2 h2.2]
end
mutual
theorem dp_of {K : PySem.W.Frag} {mg : Str → Option Value} {H : Hp} : ∀ (n : Nat) (d : D) (v : V), D.eqok n d = true → DR K mg H v d → Dp K H v (toPy d) ∧ (toPy d).canLay0 = true ∧ (toPy d).depth ≤ n
  | n, .non, v, h, r => by cases r; exact ⟨.non, rfl, Nat.zero_le _⟩
  | n, .bl b, v, h, r => by cases r; exact ⟨.bl b, rfl, Nat.zero_le _⟩
  | n, .int b, v, h, r => by cases r; exact ⟨.int b, rfl, Nat.zero_le _⟩
  | n, .str s, v, h, r => by
    cases r with
    | str l c =>
      refine ⟨.str _, ?_, Nat.zero_le _⟩
      simp only [toPy, PyData.canLay0, PyData.strOk]
      rw [Array.all_eq_true_iff_forall_mem]
      exact fun x hx => decide_eq_true (c x (by simpa [strOf] using hx))
  | 0, .tup xs, v, h, r => by cases h
  | 0, .lst xs, v, h, r => by cases h
  | n + 1, .tup xs, v, h, r => by
    cases r with
    | tup s l q =>
      obtain ⟨k1, k2, k3⟩ := dps_of n xs _ h q
      exact ⟨.tup s k1, by simp only [toPy, PyData.canLay0]; exact k2, by simp only [toPy, PyData.depth]; omega⟩
  | n + 1, .lst xs, v, h, r => by
    cases r with
    | lst s l q =>
      obtain ⟨k1, k2, k3⟩ := dps_of n xs _ h q
      exact ⟨.lst (.inl (.inl s)) k1, by simp only [toPy, PyData.canLay0]; exact k2, by simp only [toPy, PyData.depth]; omega⟩
  | n, .lk xs, _, h, _ => by cases n <;> cases h
  | n, .dic xs, _, h, _ => by cases n <;> cases h
  | n, .ins _ _, _, h, _ => by cases n <;> cases h
  | n, .fn _, _, h, _ => by cases n <;> cases h
  | n, .adr _, _, h, _ => by cases n <;> cases h
  | n, .ali _ _, _, h, _ => by cases n <;> cases h
  | n, .tpn _, _, h, _ => by cases n <;> cases h
  | n, .din _, _, h, _ => by cases n <;> cases h
theorem dps_of {K : PySem.W.Frag} {mg : Str → Option Value} {H : Hp} : ∀ (n : Nat) (ds : List D) (vs : List V), D.eqoks n ds = true → DRs K mg H vs ds → DpAll K H vs (toPys ds) ∧ PyData.canLayAll0 (toPys ds) = true ∧ PyData.depthAll (toPys ds) ≤ n
  | n, [], vs, h, r => by cases r; exact ⟨.nil, rfl, Nat.zero_le _⟩
  | n, d :: ds, vs, h, r => by
    cases r with
    | cons a b =>
      simp only [D.eqoks, Bool.and_eq_true] at h
      obtain ⟨k1, k2, k3⟩ := dp_of n d _ h.1 a
      obtain ⟨q1, q2, q3⟩ := dps_of n ds _ h.2 b
      refine ⟨.cons k1 q1, ?_, ?_⟩
      · simp only [toPys, PyData.canLayAll0, k2, q2, Bool.and_self]
      · simp only [toPys, PyData.depthAll]; omega
end
section
variable {X : Cx}
theorem shaped_of {K : PySem.W.Frag} {mg : Str → Option Value} {H : Hp} {n : Nat} {d : D} {v : V} (hn : n ≤ 64) (h : D.eqok n d = true) (r : DR K mg H v d) : Dp K H v (toPy d) ∧ SeqAt.shaped (toPy d) = true := by
  obtain ⟨k1, k2, k3⟩ := dp_of n d v h r
  exact ⟨k1, by unfold SeqAt.shaped; rw [k2, decide_eq_true (by omega)]; rfl⟩
theorem od_eq (hu : X.A.units + 64 < cLine) : OpD X (compareOp .Eq) (bl2 eqD) := OpD.cases fun d1 d2 t e => by
  unfold bl2 eqD at e
  by_cases hz : D.eqok 60 d1 = true ∧ D.eqok 60 d2 = true
  · rw [if_pos hz] at e
    cases e
    refine ⟨_, op_eqD hu, fun F H x y Q le p1 p2 r1 r2 q => ?_⟩
    obtain ⟨a1, a2⟩ := shaped_of (by omega) hz.1 r1
    obtain ⟨b1, b2⟩ := shaped_of (by omega) hz.2 r2
    refine ⟨_, _, a1, b1, a2, b2, ?_⟩
    rw [eqv_py 60 60 d1 d2 hz.1 hz.2]
    exact q.bl le
  · rw [if_neg hz] at e; cases e
theorem od_ne (hu : X.A.units + 64 < cLine) : OpD X (compareOp .NotEq) (bl2 neD) := OpD.cases fun d1 d2 t e => by
  unfold bl2 neD at e
  by_cases hz : D.eqok 60 d1 = true ∧ D.eqok 60 d2 = true
  · rw [if_pos hz] at e
    cases e
    refine ⟨_, op_neD hu, fun F H x y Q le p1 p2 r1 r2 q => ?_⟩
    obtain ⟨a1, a2⟩ := shaped_of (by omega) hz.1 r1
    obtain ⟨b1, b2⟩ := shaped_of (by omega) hz.2 r2
    refine ⟨_, _, a1, b1, a2, b2, ?_⟩
    rw [eqv_py 60 60 d1 d2 hz.1 hz.2]
    exact q.bl le
  · rw [if_neg hz] at e; cases e
/-! ### in -/
theorem any_py {a : D} (n m : Nat) (ha : D.eqok m a = true) : ∀ (xs : List D), D.eqoks n xs = true → (toPys xs).any (fun z => PyData.eqv z (toPy a)) = xs.any fun z => D.eqv z a
  | [], _ => rfl
  | x :: xs, h => by
    simp only [D.eqoks, Bool.and_eq_true] at h
    simp only [toPys, List.any_cons, eqv_py n m x a h.1 ha, any_py n m ha xs h.2]
def rInT (K : PySem.W.Frag) (b : Bool) : R2 := fun x y H Q => ∃ d ds, Dp K H x d ∧ Dp K H y (.tuple ds) ∧ SeqAt.shaped d = true ∧ SeqAt.shaped (.tuple ds) = true ∧ Q (.bl (b != (ds.any fun z => PyData.eqv z d))) H
theorem op_inT (hu : X.A.units + 65 < cLine) : OpR X (compareOp .In) (rInT X.K false) := by
  intro pins s σ H x y v u Q I rx ry h
  obtain ⟨d, ds, hd, he, sd, se, q⟩ := h
  obtain ⟨as, r1⟩ := Dp.reads I d x v hd rx
  obtain ⟨bs, r2⟩ := Dp.reads I (.tuple ds) y u he ry
  exact SeqAt.in_tuple_reads r2 r1 (SeqAt.canLay_of_shaped se) (SeqAt.canLay_of_shaped sd) (room_in_shaped sd hu) ⟨.bl _, H, I, rfl, by simpa using q⟩
theorem op_ninT (hu : X.A.units + 65 < cLine) : OpR X (compareOp .NotIn) (rInT X.K true) := by
  intro pins s σ H x y v u Q I rx ry h
  obtain ⟨d, ds, hd, he, sd, se, q⟩ := h
  obtain ⟨as, r1⟩ := Dp.reads I d x v hd rx
  obtain ⟨bs, r2⟩ := Dp.reads I (.tuple ds) y u he ry
  exact SeqAt.notIn_tuple_reads r2 r1 (SeqAt.canLay_of_shaped se) (SeqAt.canLay_of_shaped sd) (room_in_shaped sd hu) ⟨.bl _, H, I, rfl, by simpa using q⟩
theorem inSeq_some {a : D} {xs : List D} {k : Bool} (h : inSeq a xs = some k) : D.eqok 60 a = true ∧ D.eqoks 60 xs = true ∧ k = xs.any fun z => D.eqv z a := by
  unfold inSeq at h
  by_cases hz : D.eqok 60 a = true ∧ D.eqoks 60 xs = true
  · rw [if_pos hz] at h
    exact ⟨hz.1, hz.2, (Option.some.inj h).symm⟩
  · rw [if_neg hz] at h; cases h
theorem valK {K : PySem.W.Frag} {mg : Str → Option Value} {F : Hp} {k : Key} : ∀ {kvs : List (Key × V)} {ds : List (D × D)}, DRk K mg F kvs ds → (lookD ds (keyD k) = none ∧ valV kvs k = none) ∨ ∃ d v, lookD ds (keyD k) = some d ∧ valV kvs k = some v ∧ DR K mg F v d
  | _, _, .nil => .inl ⟨rfl, rfl⟩
  | _, _, .cons (k := k') (v := v) (d := d) ok r rs => by
    by_cases h : k' = k
    · subst h
      exact .inr ⟨d, v, by simp [lookD], by simp [valV], r⟩
    · have h2 : ¬ keyD k' = keyD k := fun z => h (keyD_inj z)
      rcases valK (k := k) rs with ⟨a, b⟩ | ⟨d, v, a, b, c⟩
      · exact .inl ⟨by simp [lookD, h2, a], by simpa [valV, h] using b⟩
      · exact .inr ⟨d, v, by simp [lookD, h2, a], by simpa [valV, h] using b, c⟩
theorem has_look : ∀ (ds : List (D × D)) (k : D), hasD ds k = (lookD ds k).isSome
  | [], _ => rfl
  | (a, v) :: r, k => by
    have ih := has_look r k
    unfold hasD at ih ⊢
    by_cases h : a = k
    · simp [lookD, h]
    · simp [lookD, h, ih]
theorem isKey_cases {d : D} (h : isKey d = true) : (∃ i, d = .int i) ∨ ∃ s, d = .str s := by
  cases d <;> first | exact .inl ⟨_, rfl⟩ | exact .inr ⟨_, rfl⟩ | cases h
theorem PR.dict {K : PySem.W.Frag} {mg : Str → Option Value} {H F : Hp} {v : V} {ds : List (D × D)} (le : Same F H) (p : PR K mg H F v (.dic ds)) : ∃ a kvs, v = .ref a ∧ Rd H a (.dK kvs) ∧ DRk K mg F kvs ds := by
  cases p with
  | fz h => cases h with
    | dK h1 h2 => exact ⟨_, _, rfl, Same.rd le h1, h2⟩
  | dK h1 h2 => exact ⟨_, _, rfl, .inl h1, h2⟩
theorem dget {K : PySem.W.Frag} {mg : Str → Option Value} {H F : Hp} {v w : V} {ds : List (D × D)} {d : D} (le : Same F H) (p : PR K mg H F v (.dic ds)) (r : DR K mg H w d) (hk : isKey d = true) : ∃ a o, v = .ref a ∧ DGet H a w o ∧ ((lookD ds d = none ∧ o = none) ∨ ∃ d' v', lookD ds d = some d' ∧ o = some v' ∧ DR K mg F v' d') := by
  obtain ⟨a, kvs, rfl, h1, h2⟩ := p.dict le
  obtain ⟨k, rfl, rfl, ok⟩ := key_of_DR r (isKey_cases hk)
  exact ⟨a, _, rfl, .inl ⟨_, k, h1, rfl, rfl⟩, valK h2⟩
theorem PR.dictN {K : PySem.W.Frag} {mg : Str → Option Value} {H F : Hp} {v : V} {ds : List (D × D)} (le : Same F H) (p : PR K mg H F v (.din ds)) : ∃ a xs, v = .ref a ∧ Rd H a (dNO a xs) ∧ DRn K mg F xs ds := by
  cases p with
  | fz h => cases h with
    | dN h1 h2 => exact ⟨_, _, rfl, Same.rd le h1, h2⟩
  | dN h1 h2 => exact ⟨_, _, rfl, .inl h1, h2⟩
def rInN (K : PySem.W.Frag) (mg : Str → Option Value) : R2 := fun x y H Q => ∃ a xs ds d, y = .ref a ∧ Rd H a (dNO a xs) ∧ DRn K mg H xs ds ∧ isKeyN d = true ∧ DR K mg H x d ∧ Q (.bl (hasD ds d)) H
def rNinN (K : PySem.W.Frag) (mg : Str → Option Value) : R2 := fun x y H Q => ∃ a xs ds d, y = .ref a ∧ Rd H a (dNO a xs) ∧ DRn K mg H xs ds ∧ isKeyN d = true ∧ DR K mg H x d ∧ Q (.bl (!hasD ds d)) H
theorem op_inN {X : Cx} (hP : Prw.P = X.prog) (hw : Prw.w = X.w) (hu : X.A.units + 65 < cLine) : OpR X (compareOp .In) (rInN X.K X.mg) := by
  intro pins s σ H x y v u Q I rx ry h
  obtain ⟨a, xs, ds, d, rfl, h1, h2, h3, h4, q⟩ := h
  cases ry
  exact n_in hP hw (by omega) I (Same.refl _) h1 h2 h3 h4 rx fun s' I' => ⟨.bl _, H, I', rfl, q⟩
theorem op_ninN {X : Cx} (hP : Prw.P = X.prog) (hw : Prw.w = X.w) (hu : X.A.units + 65 < cLine) : OpR X (compareOp .NotIn) (rNinN X.K X.mg) := by
  intro pins s σ H x y v u Q I rx ry h
  obtain ⟨a, xs, ds, d, rfl, h1, h2, h3, h4, q⟩ := h
  cases ry
  exact n_nin hP hw (by omega) I (Same.refl _) h1 h2 h3 h4 rx fun s' I' => ⟨.bl _, H, I', rfl, q⟩
def rInK : R2 := fun x y H Q => ∃ a o, y = .ref a ∧ DGet H a x o ∧ Q (.bl o.isSome) H
def rNinK : R2 := fun x y H Q => ∃ a o, y = .ref a ∧ DGet H a x o ∧ Q (.bl (!o.isSome)) H
theorem op_inK {X : Cx} (hu : X.A.units + 65 < cLine) : OpR X (compareOp .In) rInK := by
  intro pins s σ H x y v u Q I rx ry h
  obtain ⟨a, o, rfl, g, q⟩ := h
  cases ry
  exact d_in (by omega) I g rx fun s' I' => ⟨.bl _, H, I', rfl, q⟩
theorem op_ninK {X : Cx} (hu : X.A.units + 65 < cLine) : OpR X (compareOp .NotIn) rNinK := by
  intro pins s σ H x y v u Q I rx ry h
  obtain ⟨a, o, rfl, g, q⟩ := h
  cases ry
  exact d_notIn (by omega) I g rx fun s' I' => ⟨.bl _, H, I', rfl, q⟩
theorem dec_same {a b : Prop} {i : Decidable a} {j : Decidable b} (h : a ↔ b) {p : Bool → Prop} (q : p (@decide b j)) : p (@decide a i) := by
  have e : @decide a i = @decide b j := by
    cases i with
    | isTrue x => cases j with
      | isTrue y => rfl
      | isFalse y => exact absurd (h.mp x) y
    | isFalse x => cases j with
      | isTrue y => exact absurd (h.mpr y) x
      | isFalse y => rfl
  rw [e]; exact q
theorem str_sign {K : PySem.W.Frag} {mg : Str → Option Value} {H : Hp} {x : V} {c : Nat} (r : DR K mg H x (.str [c])) : x = .str ⟨#[c]⟩ := by
  cases r with
  | str _ _ => rfl
theorem od_in (hP : Prw.P = X.prog) (hw : Prw.w = X.w) (hu : X.A.units + 65 < cLine) : OpD X (compareOp .In) (bl2 inD) := OpD.cases fun d1 d2 t e => by
  cases hk : inD d1 d2 with
  | none => rw [bl2, hk] at e; cases e
  | some k =>
    rw [bl2, hk] at e; cases e
    cases d2 <;> first | (cases hk; done) | skip
    case lst xs =>
      obtain ⟨h1, h2, rfl⟩ := inSeq_some (show inSeq d1 xs = some k from hk)
      refine ⟨_, op_inD hu, fun F H x y Q le p1 p2 r1 r2 q => ?_⟩
      obtain ⟨a1, a2⟩ := shaped_of (by omega) h1 r1
      obtain ⟨b1, b2⟩ := shaped_of (n := 61) (d := .lst xs) (by omega) h2 r2
      refine ⟨_, _, a1, b1, a2, b2, ?_⟩
      rw [any_py 60 60 h1 xs h2]
      exact q.bl le
    case tup xs =>
      obtain ⟨h1, h2, rfl⟩ := inSeq_some (show inSeq d1 xs = some k from hk)
      refine ⟨_, op_inT hu, fun F H x y Q le p1 p2 r1 r2 q => ?_⟩
      obtain ⟨a1, a2⟩ := shaped_of (by omega) h1 r1
      obtain ⟨b1, b2⟩ := shaped_of (n := 61) (d := .tup xs) (by omega) h2 r2
      refine ⟨_, _, a1, b1, a2, b2, ?_⟩
      rw [any_py 60 60 h1 xs h2]
      simpa using q.bl le
    case str ys =>
      cases d1 <;> first | (cases hk; done) | skip
      rename_i cs
      match cs, hk with
      | [c], hk =>
        cases hk
        refine ⟨_, op_in_sign, fun F H x y Q le p1 p2 r1 r2 q => ?_⟩
        cases r2 with
        | str _ _ => exact ⟨c, _, str_sign r1, rfl, dec_same (by simp [strOf]) (p := fun k => Q (.bl k) H) (q.bl le)⟩
    case dic kvs =>
      have hk : (if isKey d1 = true then some (hasD kvs d1) else none) = some k := hk
      by_cases hz : isKey d1 = true
      · rw [if_pos hz] at hk; cases hk
        refine ⟨_, op_inK hu, fun F H x y Q le p1 p2 r1 r2 q => ?_⟩
        obtain ⟨a, o, rfl, g, h⟩ := dget le p2 r1 hz
        refine ⟨a, o, rfl, g, ?_⟩
        have e : o.isSome = hasD kvs d1 := by
          rw [has_look]
          rcases h with ⟨h1, rfl⟩ | ⟨d', v', h1, rfl, _⟩ <;> rw [h1] <;> rfl
        rw [e]
        exact q.bl le
      · rw [if_neg hz] at hk; cases hk
    case din kvs =>
      have hk : (if isKeyN d1 = true then some (hasD kvs d1) else none) = some k := hk
      by_cases hz : isKeyN d1 = true
      · rw [if_pos hz] at hk; cases hk
        refine ⟨_, op_inN hP hw hu, fun F H x y Q le p1 p2 r1 r2 q => ?_⟩
        obtain ⟨a, xs, rfl, h1, h2⟩ := p2.dictN le
        exact ⟨a, xs, kvs, d1, rfl, h1, h2.mono le, hz, r1, q.bl le⟩
      · rw [if_neg hz] at hk; cases hk
theorem od_nin (hP : Prw.P = X.prog) (hw : Prw.w = X.w) (hu : X.A.units + 65 < cLine) : OpD X (compareOp .NotIn) (bl2 ninD) := OpD.cases fun d1 d2 t e => by
  unfold bl2 ninD at e
  cases hk : inD d1 d2 with
  | none => rw [hk] at e; cases e
  | some k =>
    rw [hk] at e; cases e
    cases d2 <;> first | (cases hk; done) | skip
    case lst xs =>
      obtain ⟨h1, h2, rfl⟩ := inSeq_some (show inSeq d1 xs = some k from hk)
      refine ⟨_, op_notInD hu, fun F H x y Q le p1 p2 r1 r2 q => ?_⟩
      obtain ⟨a1, a2⟩ := shaped_of (by omega) h1 r1
      obtain ⟨b1, b2⟩ := shaped_of (n := 61) (d := .lst xs) (by omega) h2 r2
      refine ⟨_, _, a1, b1, a2, b2, ?_⟩
      rw [any_py 60 60 h1 xs h2]
      exact q.bl le
    case tup xs =>
      obtain ⟨h1, h2, rfl⟩ := inSeq_some (show inSeq d1 xs = some k from hk)
      refine ⟨_, op_ninT hu, fun F H x y Q le p1 p2 r1 r2 q => ?_⟩
      obtain ⟨a1, a2⟩ := shaped_of (by omega) h1 r1
      obtain ⟨b1, b2⟩ := shaped_of (n := 61) (d := .tup xs) (by omega) h2 r2
      refine ⟨_, _, a1, b1, a2, b2, ?_⟩
      rw [any_py 60 60 h1 xs h2]
      simpa using q.bl le
    case str ys =>
      cases d1 <;> first | (cases hk; done) | skip
      rename_i cs
      match cs, hk with
      | [c], hk =>
        cases hk
        refine ⟨_, op_notIn_sign, fun F H x y Q le p1 p2 r1 r2 q => ?_⟩
        cases r2 with
        | str _ _ => exact ⟨c, _, str_sign r1, rfl, dec_same (by simp [strOf]) (p := fun k => Q (.bl (!k)) H) (q.bl le)⟩
    case dic kvs =>
      have hk : (if isKey d1 = true then some (hasD kvs d1) else none) = some k := hk
      by_cases hz : isKey d1 = true
      · rw [if_pos hz] at hk; cases hk
        refine ⟨_, op_ninK hu, fun F H x y Q le p1 p2 r1 r2 q => ?_⟩
        obtain ⟨a, o, rfl, g, h⟩ := dget le p2 r1 hz
        refine ⟨a, o, rfl, g, ?_⟩
        have e : o.isSome = hasD kvs d1 := by
          rw [has_look]
          rcases h with ⟨h1, rfl⟩ | ⟨d', v', h1, rfl, _⟩ <;> rw [h1] <;> rfl
        rw [e]
        exact q.bl le
      · rw [if_neg hz] at hk; cases hk
    case din kvs =>
      have hk : (if isKeyN d1 = true then some (hasD kvs d1) else none) = some k := hk
      by_cases hz : isKeyN d1 = true
      · rw [if_pos hz] at hk; cases hk
        refine ⟨_, op_ninN hP hw hu, fun F H x y Q le p1 p2 r1 r2 q => ?_⟩
        obtain ⟨a, xs, rfl, h1, h2⟩ := p2.dictN le
        exact ⟨a, xs, kvs, d1, rfl, h1, h2.mono le, hz, r1, q.bl le⟩
      · rw [if_neg hz] at hk; cases hk
/-! ### is -/
theorem od_is : OpD X (compareOp .Is) (bl2 isD) := OpD.cases fun d1 d2 t e => by
  cases d2 <;> first | (cases e; done) | skip
  case non =>
    refine ⟨_, op_isN, fun F H x y Q le p1 p2 r1 r2 q => ?_⟩
    cases r2
    refine ⟨rfl, ?_⟩
    cases d1 <;> cases e <;> cases r1 <;> exact q.bl le
  case bl b =>
    cases d1 with
    | bl a =>
      cases e
      refine ⟨_, op_isBl, fun F H x y Q le p1 p2 r1 r2 q => ?_⟩
      cases r1; cases r2
      have q := q.bl le
      refine ⟨_, _, rfl, rfl, ?_⟩
      cases a <;> cases b <;> exact q
    | _ => cases e
theorem od_nis : OpD X (compareOp .IsNot) (bl2 nisD) := OpD.cases fun d1 d2 t e => by
  cases d2 <;> first | (cases e; done) | skip
  case non =>
    refine ⟨_, op_notN, fun F H x y Q le p1 p2 r1 r2 q => ?_⟩
    cases r2
    refine ⟨rfl, ?_⟩
    cases d1 <;> cases e <;> cases r1 <;> exact q.bl le
  case bl b =>
    cases d1 with
    | bl a =>
      cases e
      refine ⟨_, op_notBl, fun F H x y Q le p1 p2 r1 r2 q => ?_⟩
      cases r1; cases r2
      have q := q.bl le
      refine ⟨_, _, rfl, rfl, ?_⟩
      cases a <;> cases b <;> exact q
    | _ => cases e
end
end Rx
end

section
/-! Rx, part 12: subscripts, slices, built-ins. -/
namespace Rx
open PySem PySem.Spec PyProof.Rows L2
variable [Prw]
section
variable {K : PySem.W.Frag} {mg : Str → Option Value} {F H : Hp}
theorem DRs.get2 {vs : List V} {ds : List D} {k : Nat} {d : D} (r : DRs K mg F vs ds) (h : ds[k]? = some d) : ∃ v, vs[k]? = some v ∧ DR K mg F v d := go r h
where go : ∀ {vs : List V} {ds : List D} {k : Nat} {d : D}, DRs K mg F vs ds → ds[k]? = some d → ∃ v, vs[k]? = some v ∧ DR K mg F v d
  | _, _, 0, _, .cons (v := v) h _, e => ⟨v, rfl, by cases e; exact h⟩
  | _, _, k + 1, _, .cons _ r, e => go (k := k) r e
theorem DRs.take : ∀ {vs : List V} {ds : List D} (n : Nat), DRs K mg F vs ds → DRs K mg F (vs.take n) (ds.take n)
  | _, _, 0, _ => by simp only [List.take_zero]; exact .nil
  | _, _, n + 1, .nil => by simp only [List.take_nil]; exact .nil
  | _, _, n + 1, .cons h r => by simp only [List.take_succ_cons]; exact .cons h (DRs.take n r)
theorem DRs.drop : ∀ {vs : List V} {ds : List D} (n : Nat), DRs K mg F vs ds → DRs K mg F (vs.drop n) (ds.drop n)
  | _, _, 0, r => r
  | _, _, n + 1, .nil => by simp only [List.drop_nil]; exact .nil
  | _, _, n + 1, .cons _ r => DRs.drop n r
theorem bnd_lo (n : Nat) (o : Option Int) : HT.sIx n 0 o = bnd n 0 o := by
  cases o with
  | none => rfl
  | some i => cases i with
    | ofNat k => exact HT.sIx_nat n 0 k
    | negSucc k => show (if Int.negSucc k < 0 then (Int.negSucc k + (n : Int)).toNat else _) = n - 1 - k; rw [if_pos (Int.negSucc_lt_zero k)]; omega
theorem bnd_hi (n : Nat) (o : Option Int) : HT.sIx n n o = bnd n n o := by
  cases o with
  | none => rfl
  | some i => cases i with
    | ofNat k => exact HT.sIx_nat n n k
    | negSucc k => show (if Int.negSucc k < 0 then (Int.negSucc k + (n : Int)).toNat else _) = n - 1 - k; rw [if_pos (Int.negSucc_lt_zero k)]; omega
theorem cut_eq {α : Type} (xs : List α) (lo hi : Option Int) : (xs.drop (HT.sIx xs.length 0 lo)).take (HT.sIx xs.length xs.length hi - HT.sIx xs.length 0 lo) = cut xs lo hi := by
  unfold cut
  rw [bnd_lo, bnd_hi, List.drop_take]
theorem cutV_eq (vs : List V) (lo hi : Option Int) : cutV vs lo hi = cut vs lo hi := cut_eq vs lo hi
theorem DRs.cut {vs : List V} {ds : List D} (r : DRs K mg F vs ds) (lo hi : Option Int) : DRs K mg F (cut vs lo hi) (Rx.cut ds lo hi) := by
  unfold Rx.cut
  rw [r.length]
  exact (r.take _).drop _
theorem cut_len {α : Type} (xs : List α) (lo hi : Option Int) : (cut xs lo hi).length ≤ xs.length := by
  unfold cut
  rw [List.length_drop, List.length_take]; omega
theorem cut_mem {α : Type} {xs : List α} {lo hi : Option Int} {x : α} (h : x ∈ cut xs lo hi) : x ∈ xs := List.mem_of_mem_take (List.mem_of_mem_drop h)
theorem getI_at {vs : List V} {ds : List D} {i : Int} {d : D} (r : DRs K mg F vs ds) (h : getI ds i = some d) : ∃ v, atI vs i = some v ∧ DR K mg F v d := by
  unfold getI at h
  cases hp : plc ds.length i with
  | none => rw [hp] at h; cases h
  | some k =>
    rw [hp] at h
    obtain ⟨v, h1, h2⟩ := r.get2 h
    refine ⟨v, ?_, h2⟩
    unfold atI
    rw [r.length, (plc_ixN hp).1]
    exact h1
theorem getI_nat {xs : List Nat} {i : Int} {c : Nat} (h : getI xs i = some c) : atI xs i = some c := by
  unfold getI at h
  cases hp : plc xs.length i with
  | none => rw [hp] at h; cases h
  | some k =>
    rw [hp] at h
    unfold atI
    rw [(plc_ixN hp).1]
    exact h
theorem getI_mem {α : Type} {xs : List α} {i : Int} {c : α} (h : getI xs i = some c) : c ∈ xs := by
  unfold getI at h
  cases hp : plc xs.length i with
  | none => rw [hp] at h; cases h
  | some k => rw [hp] at h; exact List.mem_of_getElem? h
theorem look_key : ∀ {ks : List (Key × V)} {ds : List (D × D)} {k d : D}, DRk K mg F ks ds → lookD ds k = some d → ∃ k' : Key, k = keyD k'
  | _, _, _, _, .nil, h => by cases h
  | _, _, k, d, .cons (k := k') ok r rs, h => by
    by_cases e : keyD k' = k
    · exact ⟨k', e.symm⟩
    · exact look_key rs (by simpa [lookD, e] using h)
theorem PR.lk {v : V} {xs : List D} (p : PR K mg H F v (.lk xs)) : ∃ a vs, v = .ref a ∧ SqL K F a vs ∧ vs.length ≤ sizeLine ∧ DRs K mg F vs xs := by
  cases p with
  | fz h => cases h with
    | lk h1 h2 h3 => exact ⟨_, _, rfl, h1, h2, h3⟩
end
section
variable {X : Cx}
def rIxK : R2 := fun x y H Q => ∃ a v, x = .ref a ∧ DGet H a y (some v) ∧ Q v H
theorem ix_K (hu : X.A.units + 1 < cLine) : IxR X rIxK := by
  intro value slice pins s σ H x y v u Q I rx ry h hs
  obtain ⟨a, w, rfl, g, q⟩ := h
  cases rx
  exact tail_any (dict_typeIs I g) PySem.F.slot_dict_getitem.lookup (d_getItem hu I g ry fun w' s' I' r' => ⟨w, H, I', r', q⟩) hs
def rIxN (K : PySem.W.Frag) (mg : Str → Option Value) : R2 := fun x y H Q => ∃ (F : Hp) (a : Addr) (xs : List (D × Addr × V)) (ds : List (D × D)) (d d' : D), x = .ref a ∧ Same F H ∧ Rd H a (dNO a xs) ∧ DRn K mg F xs ds ∧ isKeyN d = true ∧ DR K mg H y d ∧ lookD ds d = some d' ∧ ∀ w, DR K mg F w d' → Q w H
theorem ix_N (hP : Prw.P = X.prog) (hw : Prw.w = X.w) (hu : X.A.units + 64 < cLine) : IxR X (rIxN X.K X.mg) := by
  intro value slice pins s σ H x y v u Q I rx ry h hs
  obtain ⟨F, a, xs, ds, d, d', rfl, le, h1, h2, h3, h4, h5, q⟩ := h
  cases rx
  obtain ⟨_, _, _, ys, _, dd⟩ := dn_at hP hw I le h1 h2
  exact tail_any dd.typeIs PySem.F.slot_dict_getitem.lookup (n_get hP hw hu I le h1 h2 h3 h4 ry h5 fun w' u' s' I' rd r' => ⟨w', H, I', r', q w' rd⟩) hs
/-- len of a dict, walked or not -/
theorem call_lenR : CallR X (.builtin "len") (fun xs H Q => ∃ a kvs, xs = [V.ref a] ∧ Rd H a (.dK kvs) ∧ Q (.int kvs.length) H) := by
  intro pins s σ H xs us Q I r h
  obtain ⟨a, kvs, rfl, ha, q⟩ := h
  obtain ⟨u, rfl, ru⟩ := vals1 r
  cases ru
  exact d_len I ha fun t s' I' => ⟨.int kvs.length, H, I', ⟨t, rfl⟩, q⟩
theorem call_lenN (hP : Prw.P = X.prog) (hw : Prw.w = X.w) : CallR X (.builtin "len") (fun xs H Q => ∃ F a ys ds, xs = [V.ref a] ∧ Same F H ∧ Rd H a (dNO a ys) ∧ DRn X.K X.mg F ys ds ∧ Q (.int ds.length) H) := by
  intro pins s σ H xs us Q I r h
  obtain ⟨F, a, ys, ds, rfl, le, h1, h2, q⟩ := h
  obtain ⟨u, rfl, ru⟩ := vals1 r
  cases ru
  exact n_len hP hw I le h1 h2 fun t s' I' => ⟨.int ds.length, H, I', ⟨t, rfl⟩, q⟩
theorem IxR.cases {g : D → D → Option OT} (h : ∀ d1 d2 t, g d1 d2 = some t → ∃ r, IxR X r ∧ ∀ F H x y Q, Same F H → PR X.K X.mg H F x d1 → PR X.K X.mg H F y d2 → DR X.K X.mg H x d1 → DR X.K X.mg H y d2 → FinP X.K X.mg H F t Q → r x y H Q) : IxR X (R2D X.K X.mg g) := by
  intro value slice pins s σ H x y v u Q I rx ry q hs
  obtain ⟨F, d1, d2, t, le, p1, p2, e, q⟩ := q
  obtain ⟨r, ho, k⟩ := h d1 d2 t e
  exact ho value slice pins s σ H x y v u Q I rx ry (k F H x y Q le p1 p2 (p1.all le) (p2.all le) q) hs
theorem od_ix (hP : Prw.P = X.prog) (hw : Prw.w = X.w) (hu : X.A.units + 64 < cLine) : IxR X (R2D X.K X.mg (fz2 ixK)) := IxR.cases fun d1 d2 t e => by
  unfold fz2 at e
  cases hk : ixK d1 d2 with
  | none => rw [hk] at e; cases e
  | some d =>
    rw [hk] at e; cases e
    cases d1 <;> first | (cases hk; done) | skip
    case dic kvs =>
      have hk : lookD kvs d2 = some d := hk
      refine ⟨_, ix_K (by omega), fun F H x y Q le p1 p2 r1 r2 q => ?_⟩
      obtain ⟨a, ks, rfl, h1, h2⟩ := p1.dict le
      have : ∃ k : Key, d2 = keyD k := by
        exact look_key h2 hk
      obtain ⟨k, rfl⟩ := this
      have hk2 : isKey (keyD k) = true := by cases k <;> rfl
      obtain ⟨a', o, e1, g, h⟩ := dget le p1 r2 hk2
      rcases h with ⟨h3, _⟩ | ⟨d', v', h3, rfl, r'⟩
      · rw [hk] at h3; cases h3
      · rw [hk] at h3; cases h3
        exact ⟨a', v', e1, g, q.same le r'⟩
    case din kvs =>
      have hk : (if isKeyN d2 = true then lookD kvs d2 else none) = some d := hk
      by_cases hz : isKeyN d2 = true
      · rw [if_pos hz] at hk
        refine ⟨_, ix_N hP hw hu, fun F H x y Q le p1 p2 r1 r2 q => ?_⟩
        obtain ⟨a, ks, rfl, h1, h2⟩ := p1.dictN le
        exact ⟨F, a, ks, kvs, d2, d, rfl, le, h1, h2, hz, r2, hk, fun w r' => q.same le r'⟩
      · rw [if_neg hz] at hk; cases hk
    case lst xs =>
      cases d2 <;> first | (cases hk; done) | skip
      rename_i i
      have hk : getI xs i = some d := hk
      refine ⟨_, ix_list, fun F H x y Q le p1 p2 r1 r2 q => ?_⟩
      obtain ⟨a, vs, rfl, h1, h2, h3⟩ := p1.items le
      obtain ⟨v, e1, r⟩ := getI_at h3 hk
      cases r2
      exact ⟨a, vs, i, v, rfl, rfl, .inl (.inl h1), e1, q.same le r⟩
    case lk xs =>
      cases d2 <;> first | (cases hk; done) | skip
      rename_i i
      have hk : getI xs i = some d := hk
      refine ⟨_, ix_list, fun F H x y Q le p1 p2 r1 r2 q => ?_⟩
      obtain ⟨a, vs, rfl, h1, h2, h3⟩ := p1.lk
      obtain ⟨v, e1, r⟩ := getI_at h3 hk
      cases r2
      exact ⟨a, vs, i, v, rfl, rfl, le.seq h1, e1, q.same le r⟩
    case tup xs =>
      cases d2 <;> first | (cases hk; done) | skip
      rename_i i
      have hk : getI xs i = some d := hk
      refine ⟨_, ix_tup, fun F H x y Q le p1 p2 r1 r2 q => ?_⟩
      obtain ⟨a, vs, rfl, h1, h2, h3, _⟩ := p1.tups le
      obtain ⟨v, e1, r⟩ := getI_at h3 hk
      cases r2
      exact ⟨a, vs, i, v, rfl, rfl, h1, e1, q.same le r⟩
    case str xs =>
      cases d2 <;> first | (cases hk; done) | skip
      rename_i i
      have hk : ((getI xs i).map fun c => D.str [c]) = some d := hk
      cases hg : getI xs i with
      | none => rw [hg] at hk; cases hk
      | some c =>
        rw [hg] at hk; cases hk
        refine ⟨_, ix_str, fun F H x y Q le p1 p2 r1 r2 q => ?_⟩
        cases r2
        cases r1 with
        | str l cs => exact ⟨_, i, c, rfl, rfl, l, by simpa [strOf] using getI_nat hg, q.same le (.str (s := [c]) (by rw [sizeLine_eq]; exact Nat.succ_le_succ (Nat.zero_le _)) (by simpa using cs c (getI_mem hg)))⟩
/-! ### slices -/
theorem od_sl : L2.SlR X (RsD X.K X.mg slD) := by
  intro pins s σ H x v vl vu lo hi sl Q I rx hs pl pu h
  obtain ⟨F, d, t, le, p, e, q⟩ := h
  cases d <;> first | (cases e; done) | skip
  case str xs =>
    cases e
    refine sl_str pins s σ H x v vl vu lo hi sl Q I rx hs pl pu ?_
    cases p.all le with
    | str l c =>
      refine ⟨_, rfl, l, ?_⟩
      have e1 : cutS (strOf xs) lo hi = strOf (cut xs lo hi) := by
        unfold cutS strOf
        have e2 : (⟨xs.toArray⟩ : Str).length = xs.length := rfl
        simp only [e2]
        rw [cut_eq]
      rw [e1]
      exact q.same le (.str (Nat.le_trans (cut_len _ _ _) l) fun k hk => c k (cut_mem hk))
  case tup xs =>
    cases e
    refine sl_tupA pins s σ H x v vl vu lo hi sl Q I rx hs pl pu ?_
    obtain ⟨a, vs, rfl, h1, h2, h3, h4⟩ := p.tups le
    refine ⟨a, vs, rfl, h1, fun ⟨z1, z2⟩ => ?_, fun _ p hp => ?_⟩
    · have e1 : cut xs lo hi = xs := by
        unfold cut
        rw [← bnd_lo, ← bnd_hi, ← h3.length, z1, z2, h3.length, List.drop_zero, List.take_length]
      rw [e1] at q
      exact q.same le h4
    · rw [cutV_eq]
      exact q.new le hp (.tup (.inl (.inl upd_same)) (Nat.le_trans (cut_len _ _ _) h2) (DRs.mono (same_up (Same.free le hp)) (h3.cut lo hi)))
  case lst xs =>
    cases e
    refine sl_list pins s σ H x v vl vu lo hi sl Q I rx hs pl pu ?_
    obtain ⟨a, vs, rfl, h1, h2, h3⟩ := p.items le
    refine ⟨a, vs, rfl, .inl (.inl h1), fun p hp => ?_⟩
    rw [cutV_eq]
    exact q.newL le hp (h3.cut lo hi) (Nat.le_trans (cut_len _ _ _) h2)
/-! ### unary minus -/
theorem od_neg : UnR X (unaryOp .USub) (R1D X.K X.mg (fz1 negD)) := by
  intro pins s σ H x v Q I rx h
  obtain ⟨F, d, t, le, p, e, q⟩ := h
  cases d <;> cases e
  cases p.all le
  exact un_neg pins s σ H _ v Q I rx ⟨_, rfl, q.int le⟩
/-! ### built-ins -/
theorem CallR.cases {f : Value} {g : List D → Option OT} (h : ∀ ds t, g ds = some t → ∃ r, CallR X f r ∧ ∀ F H xs Q, Same F H → PRs X.K X.mg H F xs ds → FinP X.K X.mg H F t Q → r xs H Q) : CallR X f (RcD X.K X.mg g) := by
  intro pins s σ H xs us Q I r q
  obtain ⟨F, ds, t, le, p, e, q⟩ := q
  obtain ⟨w, ho, k⟩ := h ds t e
  exact ho pins s σ H xs us Q I r (k F H xs Q le p q)
theorem PRs.one {H F : Hp} {xs : List V} {d : D} (p : PRs X.K X.mg H F xs [d]) : ∃ v, xs = [v] ∧ PR X.K X.mg H F v d := by
  cases p with
  | cons a b => cases b; exact ⟨_, rfl, a⟩
theorem one_of {g : List D → Option OT} {ds : List D} {t : OT} (e : g ds = some t) (h0 : g [] = none) (h2 : ∀ a b r, g (a :: b :: r) = none) : ∃ d, ds = [d] := by
  match ds, e with
  | [], e => rw [h0] at e; cases e
  | [d], _ => exact ⟨d, rfl⟩
  | a :: b :: r, e => rw [h2] at e; cases e
theorem bi_len (hP : Prw.P = X.prog) (hw : Prw.w = X.w) (h : X.mg "len" = none) : HasBi X "len" lenD := ⟨h, by decide, .inl ⟨"len", rfl, CallR.cases fun ds t e => by
  obtain ⟨d, rfl⟩ := one_of e rfl (fun a b r => by cases a <;> rfl)
  cases d <;> first | (cases e; done) | skip
  case str xs =>
    cases e
    refine ⟨_, call_len, fun F H vs Q le p q => ?_⟩
    obtain ⟨v, rfl, p2⟩ := p.one
    cases p2.all le with
    | str l c => exact ⟨_, xs.length, rfl, ⟨l, rfl⟩, q.int le⟩
  case tup xs =>
    cases e
    refine ⟨_, call_len, fun F H vs Q le p q => ?_⟩
    obtain ⟨v, rfl, p2⟩ := p.one
    obtain ⟨a, vs, rfl, h1, h2, h3, h4⟩ := p2.tups le
    exact ⟨_, vs.length, rfl, .inr ⟨vs, h1, rfl⟩, by rw [h3.length]; exact q.int le⟩
  case lst xs =>
    cases e
    refine ⟨_, call_len, fun F H vs Q le p q => ?_⟩
    obtain ⟨v, rfl, p2⟩ := p.one
    obtain ⟨a, vs, rfl, h1, h2, h3⟩ := p2.items le
    exact ⟨_, vs.length, rfl, .inl ⟨vs, .inl (.inl h1), rfl⟩, by rw [h3.length]; exact q.int le⟩
  case ali a n =>
    cases e
    refine ⟨_, call_len, fun F H vs Q le p q => ?_⟩
    obtain ⟨v, rfl, p2⟩ := p.one
    cases p2 with
    | fz h =>
      cases h with
      | ali h1 h2 => exact ⟨_, _, rfl, .inl ⟨_, .inl (.inl (le _ _ h1)), rfl⟩, q.int le⟩
  case lk xs =>
    cases e
    refine ⟨_, call_len, fun F H vs Q le p q => ?_⟩
    obtain ⟨v, rfl, p2⟩ := p.one
    obtain ⟨a, vs, rfl, h1, h2, h3⟩ := p2.lk
    exact ⟨_, vs.length, rfl, .inl ⟨vs, le.seq h1, rfl⟩, by rw [h3.length]; exact q.int le⟩
  case dic xs =>
    cases e
    refine ⟨_, call_lenR, fun F H vs Q le p q => ?_⟩
    obtain ⟨v, rfl, p2⟩ := p.one
    obtain ⟨a, vs, rfl, h1, h2⟩ := p2.dict le
    exact ⟨_, vs, rfl, h1, by rw [h2.length]; exact q.int le⟩
  case din xs =>
    cases e
    refine ⟨_, call_lenN hP hw, fun F H vs Q le p q => ?_⟩
    obtain ⟨v, rfl, p2⟩ := p.one
    obtain ⟨a, vs, rfl, h1, h2⟩ := p2.dictN le
    exact ⟨F, _, vs, xs, rfl, le, h1, h2, q.int le⟩⟩⟩
theorem bi_abs (h : X.mg "abs" = none) : HasBi X "abs" absD := ⟨h, by decide, .inl ⟨"abs", rfl, CallR.cases fun ds t e => by
  obtain ⟨d, rfl⟩ := one_of e rfl (fun a b r => by cases a <;> rfl)
  cases d <;> cases e
  refine ⟨_, call_abs, fun F H vs Q le p q => ?_⟩
  obtain ⟨v, rfl, p2⟩ := p.one
  cases p2.all le
  exact ⟨_, rfl, q.int le⟩⟩⟩
theorem bi_int (h : X.mg "int" = none) : HasBi X "int" intB := ⟨h, by decide, .inr ⟨"int", rfl, CallR.cases fun ds t e => by
  obtain ⟨d, rfl⟩ := one_of e rfl (fun a b r => by cases a <;> rfl)
  refine ⟨_, call_int1, fun F H vs Q le p q => ?_⟩
  obtain ⟨v, rfl, p2⟩ := p.one
  cases d <;> cases e
  · cases p2.all le
    exact .inr ⟨_, rfl, q.int le⟩
  · cases p2.all le
    exact .inl ⟨_, rfl, q.int le⟩⟩⟩
/-! ### all, any, list, tuple -/
theorem bls_V {K : PySem.W.Frag} {mg : Str → Option Value} {F : Hp} : ∀ {xs : List D} {bs : List Bool} {vs : List V}, blsOf xs = some bs → DRs K mg F vs xs → vs = bs.map V.bl
  | [], bs, vs, e, r => by cases e; cases r; rfl
  | x :: xs, bs, vs, e, r => by
    cases x <;> first | (cases e; done) | skip
    rename_i b
    have e : (blsOf xs).map (b :: ·) = some bs := e
    cases h : blsOf xs with
    | none => rw [h] at e; cases e
    | some bs' =>
      rw [h] at e; cases e
      cases r with
      | cons a c =>
        cases a
        rw [bls_V h c]; rfl
theorem bi_all (hc : X.calm = true) (h : X.mg "all" = none) : HasBi X "all" allB := ⟨h, by decide, .inl ⟨"all", rfl, CallR.cases fun ds t e => by
  obtain ⟨d, rfl⟩ := one_of e rfl (fun a b r => by cases a <;> rfl)
  cases d <;> first | (cases e; done) | skip
  rename_i xs
  have e : (blsOf xs).map (fun bs => OT.fz (.bl (bs.all id))) = some t := e
  cases hb : blsOf xs with
  | none => rw [hb] at e; cases e
  | some bs =>
    rw [hb] at e; cases e
    refine ⟨_, cr_all hc, fun F H vs Q le p q => ?_⟩
    obtain ⟨v, rfl, p2⟩ := p.one
    obtain ⟨a, vs, rfl, h1, h2, h3⟩ := p2.items le
    rw [bls_V hb h3] at h1
    exact ⟨a, bs, rfl, .inl (.inl h1), q.bl le⟩⟩⟩
theorem bi_any (hc : X.calm = true) (h : X.mg "any" = none) : HasBi X "any" anyB := ⟨h, by decide, .inl ⟨"any", rfl, CallR.cases fun ds t e => by
  obtain ⟨d, rfl⟩ := one_of e rfl (fun a b r => by cases a <;> rfl)
  cases d <;> first | (cases e; done) | skip
  rename_i xs
  have e : (blsOf xs).map (fun bs => OT.fz (.bl (bs.any id))) = some t := e
  cases hb : blsOf xs with
  | none => rw [hb] at e; cases e
  | some bs =>
    rw [hb] at e; cases e
    refine ⟨_, cr_any hc, fun F H vs Q le p q => ?_⟩
    obtain ⟨v, rfl, p2⟩ := p.one
    obtain ⟨a, vs, rfl, h1, h2, h3⟩ := p2.items le
    rw [bls_V hb h3] at h1
    exact ⟨a, bs, rfl, .inl (.inl h1), q.bl le⟩⟩⟩
theorem bi_list (h : X.mg "list" = none) : HasBi X "list" listB := ⟨h, by decide, .inr ⟨"list", rfl, CallR.cases fun ds t e => by
  obtain ⟨d, rfl⟩ := one_of e rfl (fun a b r => by cases a <;> rfl)
  refine ⟨_, call_list_of, fun F H vs Q le p q => ?_⟩
  obtain ⟨v, rfl, p2⟩ := p.one
  cases d <;> first | (cases e; done) | skip
  case lst xs =>
    cases e
    obtain ⟨a, vs, rfl, h1, h2, h3⟩ := p2.items le
    exact ⟨a, vs, rfl, .inl (.inl (.inl h1)), fun l hl => q.newL le hl h3 h2⟩
  case lk xs =>
    cases e
    obtain ⟨a, vs, rfl, h1, h2, h3⟩ := p2.lk
    exact ⟨a, vs, rfl, .inl (le.seq h1), fun l hl => q.newL le hl h3 h2⟩
  case tup xs =>
    cases e
    obtain ⟨a, vs, rfl, h1, h2, h3, _⟩ := p2.tups le
    exact ⟨a, vs, rfl, .inr h1, fun l hl => q.newL le hl h3 h2⟩⟩⟩
theorem bi_tuple (h : X.mg "tuple" = none) : HasBi X "tuple" tupB := ⟨h, by decide, .inr ⟨"tuple", rfl, CallR.cases fun ds t e => by
  obtain ⟨d, rfl⟩ := one_of e rfl (fun a b r => by cases a <;> rfl)
  refine ⟨_, call_tuple_of, fun F H vs Q le p q => ?_⟩
  obtain ⟨v, rfl, p2⟩ := p.one
  cases d <;> first | (cases e; done) | skip
  case lst xs =>
    cases e
    obtain ⟨a, vs, rfl, h1, h2, h3⟩ := p2.items le
    exact ⟨a, vs, rfl, .inl ⟨.inl (.inl h1), fun l hl => q.new le hl (.tup (.inl (.inl upd_same)) h2 (DRs.mono (same_up (Same.free le hl)) h3))⟩⟩
  case tup xs =>
    cases e
    obtain ⟨a, vs, rfl, h1, h2, h3, h4⟩ := p2.tups le
    exact ⟨a, vs, rfl, .inr ⟨h1, q.same le h4⟩⟩⟩⟩
end
/-! ### isinstance -/
section
variable {X : Cx}
theorem kit_isi {d : D} {T a : String} {b : Bool} (h : isiB d T = some b) (e : d.ty = some a) : kitB a T = some b := by
  unfold isiB at h
  split at h <;> first | (rw [e] at h; cases h) | cases h
  all_goals (cases d <;> cases e <;> decide +kernel)
theorem tyX_of {K : PySem.W.Frag} {mg : Str → Option Value} {H F : Hp} {v : V} {d : D} {a : String} (le : Same F H) (p : PR K mg H F v d) (e : d.ty = some a) : TyX K H v (.type a) := by
  cases d <;> cases e
  case non => cases p.all le; exact .base .non
  case bl => cases p.all le; exact .base (.bl _)
  case int => cases p.all le; exact .base (.int _)
  case str => cases p.all le; exact .base (.str _)
  case tup xs =>
    obtain ⟨a, vs, rfl, h1, _⟩ := p.tups le
    rcases h1 with (h1 | ⟨o, h1⟩) | ⟨o, its, n, h1, h2, _⟩
    · exact .base (.tup h1)
    · exact .fTuple h1
    · exact .kTuple h1 h2
  case tpn xs =>
    cases p with
    | fz d => cases d with
      | tpn h hc hd hz r => exact .fTuple (le _ _ h)
  case lst xs =>
    obtain ⟨a, vs, rfl, h1, _⟩ := p.items le
    exact .base (.lst h1)
  case dic xs =>
    obtain ⟨a, vs, rfl, h1, _⟩ := p.dict le
    rcases h1 with h1 | ⟨o, h1⟩
    · exact .base (.dK h1)
    · exact .fDict h1
theorem pe_isi {W : WX} {T : String} {tn : Str} {e : Expr} {xe : IE} {me : M OT} {p p2 pos : Pos} (hx : tn ≠ "__name__") (hT : bootBuiltins tn = some (.type T)) (h0 : X.mg "isinstance" = none) (h1 : X.mg tn = none) (hg : Gl X "isinstance") (hgT : Gl X tn) (hdT : (tn == ("__debug__" : Str)) = false)
    (ha : PE X e (tOX X W xe me)) (he : starEach [e, .Name tn p2] X.env = (false, eval e X.env) :: starEach [.Name tn p2] X.env) (he2 : starEach [.Name tn p2] X.env = [(false, eval (.Name tn p2) X.env)]) (hpl : (backTo pos (starEach [.Name tn p2] X.env)).any (·.1) = false) :
    PE X (.Call (.Name "isinstance" p) [e, .Name tn p2] [] pos) (tDX X W (M.bind (opd xe me) fun ra => M.bind (M.pure ([] : List (Option D))) fun rs => M.bind (fin xe ra) fun x => M.bind (fins [] rs) fun ds => M.lift (isiD T x ds))) := by
  refine PE.imp (pe_callB call_isi hg h0 rfl (pa_cons ha (pa_cons (pe_bltn hgT h1 hT (v := .ty T) rfl hx hdT) pa_nil he2) he) (by decide) (by decide) he hpl) fun σ H Q h => ?_
  obtain ⟨F, en, fp, ss, h⟩ := h
  refine opd_use Stp.refl ss h fun v H1 F1 fp1 r e1 s1 _ ss1 o1 h1 => ?_
  obtain ⟨d, pd, h2⟩ := fin_use ss1 o1 h1
  obtain ⟨t, ht, hq⟩ := lift_end s1 ss1 h2
  unfold isiD at ht
  cases hb : isiB d T with
  | none => rw [hb] at ht; cases ht
  | some b =>
    rw [hb] at ht; cases ht
    have : ∃ a, d.ty = some a := by
      cases hd : d.ty with
      | some a => exact ⟨a, rfl⟩
      | none =>
        unfold isiB at hb
        rw [hd] at hb
        split at hb <;> cases hb
    obtain ⟨a, ea⟩ := this
    exact ⟨v, .ty T, .type a, .type T, b, rfl, .ty T, tyX_of ss1.le pd ea, kit_ty (kit_isi hb ea), hq.bl ss1.le⟩
end
end Rx
end

section
/-! Rx, part 13: the rules in short: IR beside syntax. -/
namespace Rx
open PySem PySem.Spec PyProof.Rows L2
variable [Prw]

structure Cq (X : Cx) (W : WX) (k : Nat) : Prop where
  room : Room k X.A
  tk : Takes X W
  calm : X.calm = true
  nd : X.N.Nodup
  pw : Prw.P = X.prog
  ww : Prw.w = X.w
section
variable {X : Cx} {W : WX} {k : Nat}
theorem Cq.u64 (c : Cq X W k) : X.A.units + 64 < cLine := c.room.units
theorem Cq.u65 (c : Cq X W k) : X.A.units + 65 < cLine := by have := c.room.un; omega
theorem Cq.u1 (c : Cq X W k) : X.A.units + 1 < cLine := by have := c.room.un; omega
theorem Cq.blk (c : Cq X W k) {s : Shared} {H : Hp} {sc : Scope} {e : Env} {fp : List Addr} : Cq (X.blk s H sc e fp) W0 k :=
  ⟨c.room, fun u s' x => by obtain ⟨a, B, sI, pins, σ, H, cls, d, e, I, nb, up, sky, na, os, ag, w⟩ := x; exact w.elim, c.calm, c.nd, c.pw, c.ww⟩
end

abbrev JE (X : Cx) (W : WX) (x : IE) (e : Expr) : Prop := PE X e (tDX X W (sem x).1)
abbrev JO (X : Cx) (W : WX) (x : IE) (e : Expr) : Prop := PE X e (tOX X W x (sem x).1)
abbrev JT (X : Cx) (W : WX) (x : IE) (e : Expr) : Prop := PT X e (tDbX X W (sem x).2)
abbrev JA (X : Cx) (W : WX) (r : Bool) (x : IE) (e : Expr) : Prop := PE X e (tArg X.K X.mg W r x (sem x).1)
abbrev JL (X : Cx) (W : WX) (xs : List IE) (es : List Expr) : Prop := PA X es (tDs X.K X.mg W (evs xs))
abbrev JLO (X : Cx) (W : WX) (xs : List IE) (es : List Expr) : Prop := PA X es (tOps X.K X.mg W xs)
abbrev JLA (X : Cx) (W : WX) (ms : List Bool) (xs : List IE) (es : List Expr) : Prop := PA X es (tDa X.K X.mg W (evArgs ms xs))
abbrev JI (X : Cx) (W : WX) (k : ITK) (its : List IE) (tg e : Expr) : Prop := PI X tg e (tI X.K X.mg W (itM k its))
abbrev JG (X : Cx) (t : TGt) (e : Expr) : Prop := PG X e (gOf X.K t)
abbrev JGs (X : Cx) (t : List TGt) (e : List Expr) : Prop := PGs X e (gsOf X.K t)
abbrev JC (X : Cx) (W : WX) (c : Option IE) (es : List Expr) : Prop := PTs X es (tDbX X W (semOpt c))
abbrev JS (X : Cx) (W : WX) (P : Nat → Bool) (s : IS) (st : Stmt) : Prop := PS X st (tSX X W P (run1 s))
abbrev JSs (X : Cx) (W : WX) (P : Nat → Bool) (s : List IS) (st : List Stmt) : Prop := PSs X st (tSX X W P (run s))

section
variable {X : Cx} {W : WX} {k : Nat} {P : Nat → Bool} {pos p p2 : Pos} {a b c e elt iter tg : Expr} {es rest : List Expr} {xa xb xc x : IE} {xs : List IE}
/-! ### leaves -/
theorem e_var (j : Nat) {x : Str} (hN : X.N[j]? = some x := by rfl) (hv : Vis X.env.scope x := by first | exact Or.inl rfl | exact Or.inr (Or.inl rfl) | exact Or.inr (Or.inr rfl)) (hd : (x == ("__debug__" : Str)) = false := by decide)
    (hcd : (x == ("__classdict__" : Str)) = false := by decide) : JE X W (.var j) (.Name x pos) := pe_read (pe_var hN hv hd hcd)
theorem e_mv (j : Nat) {x : Str} (hN : X.N[j]? = some x := by rfl) (hv : Vis X.env.scope x := by first | exact Or.inl rfl | exact Or.inr (Or.inl rfl) | exact Or.inr (Or.inr rfl)) (hd : (x == ("__debug__" : Str)) = false := by decide)
    (hcd : (x == ("__classdict__" : Str)) = false := by decide) : JE X W (.mv j) (.Name x pos) := pe_move (pe_var hN hv hd hcd)
theorem o_var (j : Nat) {x : Str} (hN : X.N[j]? = some x := by rfl) (hv : Vis X.env.scope x := by first | exact Or.inl rfl | exact Or.inr (Or.inl rfl) | exact Or.inr (Or.inr rfl)) (hd : (x == ("__debug__" : Str)) = false := by decide)
    (hcd : (x == ("__classdict__" : Str)) = false := by decide) : JO X W (.var j) (.Name x pos) := pe_var hN hv hd hcd
theorem r_var (j : Nat) {x : Str} (hN : X.N[j]? = some x := by rfl) (hv : Vis X.env.scope x := by first | exact Or.inl rfl | exact Or.inr (Or.inl rfl) | exact Or.inr (Or.inr rfl)) (hd : (x == ("__debug__" : Str)) = false := by decide)
    (hcd : (x == ("__classdict__" : Str)) = false := by decide) : JA X W true (.var j) (.Name x pos) := pe_var hN hv hd hcd
theorem o_e (h : JE X W x e) (hv : x.isVar = none := by rfl) : JO X W x e := by
  unfold JO tOX tO; rw [hv]; exact h
theorem r_f (h : JE X W x e) : JA X W false x e := h
theorem r_t (h : JE X W x e) (hv : x.isVar = none := by rfl) : JA X W true x e := by
  unfold JA tArg refVar; rw [hv]; exact h
theorem e_int {i : Int} {j : Nat} : JE X W (.con (.int i)) (.Constant (.int i) j pos) := pe_c pe_int fun F => .int i
theorem e_bl {i : Bool} {j : Nat} : JE X W (.con (.bl i)) (.Constant (.bool i) j pos) := pe_c pe_bl fun F => .bl i
theorem e_non {j : Nat} : JE X W (.con .non) (.Constant .none j pos) := pe_c pe_non fun F => .non
theorem e_str {s : List Nat} {z : Str} {j : Nat} (h : z = strOf s := by rfl) (hl : (decide (s.length ≤ sizeMax) && s.all fun c => decide (c < 0x110000)) = true := by decide +kernel) : JE X W (.con (.str s)) (.Constant (.str z) j pos) := by
  subst h
  rw [Bool.and_eq_true, List.all_eq_true] at hl
  exact pe_c pe_str fun F => .str (of_decide_eq_true hl.1) fun c hc => of_decide_eq_true (hl.2 c hc)
/-- a global that stands for data -/
def HasG (X : Cx) (x : Str) (d : D) : Prop := ∃ u v, X.mg x = some u ∧ RelV v u ∧ ∀ F, DR X.K X.mg F v d
theorem e_glo {x : Str} {d : D} (h : HasG X x d) (hg : Gl X x := by rfl) (hd : (x == ("__debug__" : Str)) = false := by decide) : JE X W (.glo x d) (.Name x pos) := by
  obtain ⟨u, v, h1, h2, h3⟩ := h
  exact pe_c (pe_glob hg h1 h2 hd) h3
theorem e_dnew : JE X W .dnew (.Dict [] [] pos) := by
  refine PE.imp pe_dnewK fun σ H Q q => ?_
  obtain ⟨F, en, fp, ss, q⟩ := q
  intro p hp
  have q : FinV X.K X.mg H F fp σ Q (.dic []) en := q
  have hFp : F p = none := Same.free ss.le hp
  have hn : p ∉ fp := fun z => by
    obtain ⟨o, e⟩ := ss.env.there p z
    rw [hp] at e; cases e
  refine q (.ref p) _ F fp [p] ⟨(Stp.newO hp).sub fun a ha => ha, ⟨same_new ss.le hp, ss.env.keep (Same.refl _) fun a ha o e => by rw [upd_ne (ne_of_none e hp)]; exact e, ss.own⟩, .dK upd_same .nil, fun a ha => ?_, fun a ha => ?_⟩
  · have : a = p := by simpa using ha
    rw [this]; exact hn
  · have : a = p := by simpa using ha
    rw [this]; exact hFp
theorem dn_empty {P : Program} {w : World} {H : Hp} (h : Heap) (hb : sysModules < h.objs.size) : ObjOk P w H (h.push { cls := .type "dict", data := .dict #[] }) h.objs.size (dNO h.objs.size []) := by
  have hd : (h.objs.size == sysModules) = false := by
    exact beq_eq_false_iff_ne.mpr (Ne.symm (Nat.ne_of_lt hb))
  refine ⟨⟨Nat.zero_le _, hd, List.nodup_nil, [], .nil, _, #[], 0, Heap.get?_push_size _ rfl, ⟨rfl, rfl, rfl⟩, rfl, rfl⟩, ⟨_, Heap.get?_push_size _ rfl⟩, fun h1 h2 q k => ?_⟩
  obtain ⟨a1, a2, a3, ys, a4, o, es, ep, b1, b2, b3, b4⟩ := q
  exact ⟨a1, a2, a3, ys, a4, o, es, ep, k _ b1, b2, b3, b4⟩
def tDNewN : TE := fun _ H Q => ∀ p, H p = none → Q (.ref p) (upd H p (dNO p []))
theorem pe_dnewN : PE X (.Dict [] [] pos) tDNewN := ⟨fun pins s σ H Q I h =>
  wpAny_Dict_empty ⟨.ref s.heap.objs.size, _, I.laid (a := s.heap.objs.size) (o := dNO s.heap.objs.size []) (t' := s.toks) (fun _ _ q => Heap.get?_push_of_some _ q) (Nat.le_refl _) (dn_empty s.heap I.big), rfl, h _ (I.hok.fresh (Nat.le_refl _))⟩⟩
/-- {} for tuple keys -/
theorem e_dnewN : JE X W .dnewN (.Dict [] [] pos) := by
  refine PE.imp pe_dnewN fun σ H Q q => ?_
  obtain ⟨F, en, fp, ss, q⟩ := q
  intro p hp
  have q : FinV X.K X.mg H F fp σ Q (.din []) en := q
  have hFp : F p = none := Same.free ss.le hp
  have hn : p ∉ fp := fun z => by
    obtain ⟨o, e⟩ := ss.env.there p z
    rw [hp] at e; cases e
  refine q (.ref p) _ F fp [p] ⟨(Stp.newO hp).sub fun a ha => ha, ⟨same_new ss.le hp, ss.env.keep (Same.refl _) fun a ha o e => by rw [upd_ne (ne_of_none e hp)]; exact e, ss.own⟩, .dN upd_same .nil, fun a ha => ?_, fun a ha => ?_⟩
  · have : a = p := by simpa using ha
    rw [this]; exact hn
  · have : a = p := by simpa using ha
    rw [this]; exact hFp
/-- nobody's own from here on -/
theorem e_fz (h : JE X W x e) : JE X W (.fzz x) e := by
  refine PE.imp h fun σ H Q q => ?_
  obtain ⟨F, en, fp, ss, q⟩ := q
  have q : WP X.K X.mg W σ H F fp (((sem x).1 en).bind fun t e1 => R.ok (OT.fz t.view) e1) (FinV X.K X.mg H F fp σ Q) := q
  refine ⟨F, en, fp, ss, ?_⟩
  cases hm : (sem x).1 en with
  | bad => rw [hm] at q; exact q
  | exn y e1 => rw [hm] at q; exact q
  | ok t e1 =>
    rw [hm] at q
    intro v H' F' fpe fpv p
    exact q v H' _ fpe [] (fmt_fz p)
/-! ### lists of expressions -/
theorem l_nil : JL X W [] [] := pa_nilD
theorem l_cons (ha : JE X W x a) (hr : JL X W xs es) (hs : starEach (a :: es) X.env = (false, eval a X.env) :: starEach es X.env := by rfl) : JL X W (x :: xs) (a :: es) := pa_consD ha hr hs
theorem lo_nil : JLO X W [] [] := pa_nilO
theorem lo_cons (ha : JO X W x a) (hr : JLO X W xs es) (hs : starEach (a :: es) X.env = (false, eval a X.env) :: starEach es X.env := by rfl) : JLO X W (x :: xs) (a :: es) := pa_consO ha hr hs
theorem la_nil {ms : List Bool} : JLA X W ms [] [] := pa_nilA
theorem la_cons {m : Bool} {ms : List Bool} (ha : JA X W m x a) (hr : JLA X W ms xs es) (hs : starEach (a :: es) X.env = (false, eval a X.env) :: starEach es X.env := by rfl) : JLA X W (m :: ms) (x :: xs) (a :: es) := pa_consA (ms := m :: ms) ha hr hs
theorem e_tup {n : Nat} (h : JL X W xs es) (hl : decide (xs.length ≤ 100000) = true := by rfl) : JE X W (.tup xs) (.Tuple es n pos) := pe_tupD (of_decide_eq_true hl) h
theorem e_lst (h : JL X W xs es) (hl : decide (xs.length ≤ 100000) = true := by rfl) : JE X W (.lst xs) (.List es pos) := pe_lstD (of_decide_eq_true hl) h
/-! ### operations -/
theorem e_bop {op : Operator} {g : D → D → Option OT} (ho : OpD X (binaryOp op) g) (ha : JO X W xa a) (hb : JO X W xb b) : JE X W (.bop op g xa xb) (.BinOp a op b pos) := pe_bop ho ha hb
theorem e_cmp {op : CmpOp} {g : D → D → Option Bool} (ho : OpD X (compareOp op) (bl2 g)) (ha : JO X W xa a) (hb : JO X W xb b) (hm : behindInMarks op b = false := by first | exact nomark _ | with_unfolding_all rfl) : JE X W (.cmp op g xa xb) (.Compare a [op] [b] pos) := pe_cmpD ho ha hb hm
theorem t_cmp {op : CmpOp} {g : D → D → Option Bool} (ho : OpD X (compareOp op) (bl2 g)) (ha : JO X W xa a) (hb : JO X W xb b) (hm : behindInMarks op b = false := by first | exact nomark _ | with_unfolding_all rfl) : JT X W (.cmp op g xa xb) (.Compare a [op] [b] pos) := pt_cmpD ho ha hb hm
theorem e_neg (ha : JO X W xa a) : JE X W (.uop .USub negD xa) (.UnaryOp .USub a pos) := pe_uopD od_neg ha
theorem e_ix (c : Cq X W k) (ha : JO X W xa a) (hb : JO X W xb b) (hs : PlainIx b := by exact fun _ _ => rfl) : JE X W (.ix xa xb) (.Subscript a b pos) := pe_ixD (od_ix c.pw c.ww c.u64) ha hb hs
theorem e_sl {lo hi : Option Expr} {xl xh : Option IE} (ha : JO X W xa a) (hl : PO X lo (tOp_ X.K X.mg W (evOpt xl))) (hh : PO X hi (tOp_ X.K X.mg W (evOpt xh))) : JE X W (.sl xa xl xh) (.Subscript a (.Slice lo hi none p2) pos) := pe_slD od_sl ha hl hh
theorem po_n : PO X none (tOp_ X.K X.mg W (evOpt none)) := po_noneD
theorem po_s (h : JE X W x e) : PO X (some e) (tOp_ X.K X.mg W (evOpt (some x))) := po_someD h
/-! ### tests -/
theorem t_of (ha : JO X W x a) (hx : (sem x).2 = truthM x (sem x).1 := by rfl) (he : ∀ whole, isTrue a X.env whole = (do let v ← whole; standAt a.pos; holding [v] (truthy v)) := by intro _; rfl) : JT X W x a := by
  unfold JT; rw [hx]; exact pt_truthD ha he
theorem e_not (ha : JO X W xa a) : JE X W (.nt xa) (.UnaryOp .Not a pos) := pe_notD ha
theorem t_not (ha : JT X W xa a) : JT X W (.nt xa) (.UnaryOp .Not a pos) := pt_notD ha
theorem w_and1 (ha : JT X W x a) : PW X (.BoolOp .And [a] pos) (tDbX X W (sem (.und [x])).2) := pw_and1D ha
theorem w_or1 (ha : JT X W x a) : PW X (.BoolOp .Or [a] pos) (tDbX X W (sem (.orr [x])).2) := pw_or1D ha
theorem w_and (ha : JT X W x a) (hb : PW X (.BoolOp .And (b :: rest) pos) (tDbX X W (sem (.und xs)).2)) : PW X (.BoolOp .And (a :: b :: rest) pos) (tDbX X W (sem (.und (x :: xs))).2) := pw_andD ha hb
theorem w_or (ha : JT X W x a) (hb : PW X (.BoolOp .Or (b :: rest) pos) (tDbX X W (sem (.orr xs)).2)) : PW X (.BoolOp .Or (a :: b :: rest) pos) (tDbX X W (sem (.orr (x :: xs))).2) := pw_orD ha hb
theorem t_and (h : PW X (.BoolOp .And es pos) (tDbX X W (sem (.und xs)).2)) : JT X W (.und xs) (.BoolOp .And es pos) := h.pt
theorem t_or (h : PW X (.BoolOp .Or es pos) (tDbX X W (sem (.orr xs)).2)) : JT X W (.orr xs) (.BoolOp .Or es pos) := h.pt
theorem e_and1 (ha : JE X W x a) : JE X W (.und [x]) (.BoolOp .And [a] pos) := pe_one ha
theorem e_or1 (ha : JE X W x a) : JE X W (.orr [x]) (.BoolOp .Or [a] pos) := pe_one ha
theorem e_and {y : IE} (ha : JE X W x a) (hb : JE X W (.und (y :: xs)) (.BoolOp .And (b :: rest) pos)) : JE X W (.und (x :: y :: xs)) (.BoolOp .And (a :: b :: rest) pos) := pe_andD ha hb
theorem e_or {y : IE} (ha : JE X W x a) (hb : JE X W (.orr (y :: xs)) (.BoolOp .Or (b :: rest) pos)) : JE X W (.orr (x :: y :: xs)) (.BoolOp .Or (a :: b :: rest) pos) := pe_orD ha hb
theorem e_if (hc : JT X W xc c) (ha : JE X W xa a) (hb : JE X W xb b) : JE X W (.ife xc xa xb) (.IfExp c a b pos) := pe_ifD hc ha hb
/-! ### calls -/
theorem e_call {x : Str} {ms : List Bool} {f : Fn} {j : Nat} (c : Cq X W k) (F : HasFn X.prog X.w X.K X.mg X.base j x ms f) (ha : JLA X W ms xs (e :: es)) (hk : decide (j ≤ k) = true := by rfl) (hl : xs.length = ms.length := by rfl) (hg : Gl X x := by rfl) (hdb : (x == ("__debug__" : Str)) = false := by decide)
    (he : starEach (e :: es) X.env = (false, eval e X.env) :: starEach es X.env := by rfl) (hpl : (backTo pos (starEach es X.env)).any (·.1) = false := by rfl) : JE X W (.call x ms f xs) (.Call (.Name x p) (e :: es) [] pos) := pe_callF F c.room (of_decide_eq_true hk) c.tk hg hdb hl ha he hpl
theorem e_call0 {x : Str} {f : Fn} {j : Nat} (c : Cq X W k) (F : HasFn X.prog X.w X.K X.mg X.base j x [] f) (hk : decide (j ≤ k) = true := by rfl) (hg : Gl X x := by rfl) (hdb : (x == ("__debug__" : Str)) = false := by decide) : JE X W (.call x [] f []) (.Call (.Name x p) [] [] pos) := pe_callF0 F c.room (of_decide_eq_true hk) c.tk hg hdb rfl
theorem e_bi {x : Str} {g : List D → Option OT} (hb : HasBi X x g) (ha : JLO X W xs (e :: es)) (hg : Gl X x := by rfl) (hdb : (x == ("__debug__" : Str)) = false := by decide)
    (he : starEach (e :: es) X.env = (false, eval e X.env) :: starEach es X.env := by rfl) (hpl : (backTo pos (starEach es X.env)).any (·.1) = false := by rfl) : JE X W (.bi x g xs) (.Call (.Name x p) (e :: es) [] pos) := pe_biD hb hg hdb ha he hpl
theorem e_isi {T : String} {m tn : Str} (h0 : X.mg "isinstance" = none) (h1 : X.mg tn = none) (ha : JO X W x e) (hx : tn ≠ "__name__" := by decide) (hT : bootBuiltins tn = some (.type T) := by rfl) (hg : Gl X "isinstance" := by rfl) (hgT : Gl X tn := by rfl) (hdT : (tn == ("__debug__" : Str)) = false := by decide)
    (he : starEach [e, .Name tn p2] X.env = (false, eval e X.env) :: starEach [.Name tn p2] X.env := by rfl) (he2 : starEach [.Name tn p2] X.env = [(false, eval (.Name tn p2) X.env)] := by rfl) (hpl : (backTo pos (starEach [.Name tn p2] X.env)).any (·.1) = false := by rfl) :
    JE X W (.me m (isiD T) x []) (.Call (.Name "isinstance" p) [e, .Name tn p2] [] pos) := pe_isi hx hT h0 h1 hg hgT hdT ha he he2 hpl
/-! ### targets, what is walked, comprehensions -/
theorem g_nm (i : Nat) {x : Str} (c : Cq X W k) (hi : X.N[i]? = some x := by rfl) (hx : Loc X.env.scope x := by first | exact Or.inl rfl | exact Or.inr rfl) (hf : X.fn x = true ∨ X.env.scope.names.lookup x = some .local := by first | exact .inl rfl | exact .inr rfl) : JG X (.nm i) (.Name x pos) := by
  unfold JG; exact pg_name c.nd hi hx hf
theorem gs_nil : JGs X [] [] := pgs_nil
theorem gs_cons {t : TGt} {ts : List TGt} (h1 : JG X t e) (h2 : JGs X ts es) (hs : (assignEach (e :: es) X.env).map (·.2) = assign e X.env :: (assignEach es X.env).map (·.2) := by rfl) : JGs X (t :: ts) (e :: es) := pgs_cons h1 h2 hs
theorem g_tp {ts : List TGt} {n : Nat} (c : Cq X W k) (h : JGs X ts es) (hn : (assignEach es X.env).length = ts.length := by rfl) (hst : (assignEach es X.env).findIdx? (·.1) = none := by rfl) : JG X (.tp ts) (.Tuple es n pos) := pg_sq c.calm h hn hst
theorem i_val (h : JE X W x e) : JI X W .val [x] tg e := pi_valD h
theorem i_rng1 (hm : X.mg "range" = none) (h : JE X W x a) (hg : Gl X "range" := by rfl) (hs : starEach [a] X.env = [(false, eval a X.env)] := by rfl) : JI X W .rng1 [x] tg (.Call (.Name "range" p) [a] [] pos) := pi_rng1D hg hm (l_cons h l_nil hs) hs
theorem i_rng2 (hm : X.mg "range" = none) (h : JE X W xa a) (h2 : JE X W xb b) (hg : Gl X "range" := by rfl) (hs : starEach [a, b] X.env = [(false, eval a X.env), (false, eval b X.env)] := by rfl) (hs2 : starEach [b] X.env = [(false, eval b X.env)] := by rfl) (hs3 : starEach [a, b] X.env = (false, eval a X.env) :: starEach [b] X.env := by rfl) :
    JI X W .rng2 [xa, xb] tg (.Call (.Name "range" p) [a, b] [] pos) := pi_rng2D hg hm (l_cons h (l_cons h2 l_nil hs2) hs3) hs hs2
theorem i_enum {elts : List Expr} {kk : Nat} {tpos : Pos} (hm : X.mg "enumerate" = none) (h : JE X W x a) (hg : Gl X "enumerate" := by rfl) (hs : starEach [a] X.env = [(false, eval a X.env)] := by rfl) : JI X W .enum [x] (.Tuple elts kk tpos) (.Call (.Name "enumerate" p) [a] [] pos) := pi_enumD hg hm (l_cons h l_nil hs) hs
theorem i_zip {elts : List Expr} {kk : Nat} {tpos : Pos} (hm : X.mg "zip" = none) (h : JE X W xa a) (h2 : JE X W xb b) (hg : Gl X "zip" := by rfl) (hs : starEach [a, b] X.env = (false, eval a X.env) :: starEach [b] X.env := by rfl) (hs2 : starEach [b] X.env = [(false, eval b X.env)] := by rfl) (hpl : (backTo pos (starEach [b] X.env)).any (·.1) = false := by rfl) :
    JI X W .zip [xa, xb] (.Tuple elts kk tpos) (.Call (.Name "zip" p) [a, b] [] pos) := pi_zipD hg hm (l_cons h (l_cons h2 l_nil hs2) hs) hs hpl
theorem PTs.imp {X : Cx} {cs : List Expr} {t t' : TT} (h : PTs X cs t) (f : ∀ σ H Q, t' σ H Q → t σ H Q) : PTs X cs t' := ⟨fun pins s σ H Q I q => h.run pins s σ H Q I (f σ H Q q)⟩
theorem c_no : JC X W none [] := by
  refine Rx.PTs.imp pts_nil fun σ H Q h => ?_
  obtain ⟨F, e, fp, ss, q⟩ := h
  exact q H F fp Stp.refl ss
theorem c_if (h : JT X W x e) : JC X W (some x) [e] := pts_one h
theorem e_lc {own : List (Str × Nat)} {sc : Scope} {tgt : TGt} {it : ITK} {its : List IE} {cc : Option IE} {ifs : List Expr} (c : Cq X W k) (hi : JI X W it its tg iter) (hg : ∀ (s : Shared) (H : Hp) (C : Addr) (cl : List (Str × Addr)) (fp : List Addr), JG (X.blk s H sc (compEnvC sc cl C X.env) fp) tgt tg)
    (ht : ∀ (s : Shared) (H : Hp) (C : Addr) (cl : List (Str × Addr)) (fp : List Addr), JC (X.blk s H sc (compEnvC sc cl C X.env) fp) W0 cc ifs) (he : ∀ (s : Shared) (H : Hp) (C : Addr) (cl : List (Str × Addr)) (fp : List Addr), JE (X.blk s H sc (compEnvC sc cl C X.env) fp) W0 x elt)
    (ok : blkC X.N X.env.scope sc own = true := by rfl) (hw : (tgt.has.all fun j => (own.map (·.2)).contains j) = true := by rfl) (hs : ∀ x, foldedSetIterable iter X.env x = pure x := by intro _; rfl) : JE X W (.lc tgt it its cc x (own.map (·.2))) (.ListComp elt [⟨tg, iter, ifs, 0⟩] sc pos) := by
  refine PE.imp (pe_lc (g := gOf X.K tgt) (tt := tDb X.K X.mg W0 (semOpt cc)) (te := tD X.K X.mg W0 (sem x).1) c.calm c.nd hi (blkOk_by ok) hg ht he hs) fun σ H Q h => ?_
  exact lc_use hw (by
    obtain ⟨F, e, fp, ss, h⟩ := h
    refine ⟨F, e, fp, ss, ?_⟩
    have h : WP X.K X.mg W σ H F fp ((evs its e).bind fun ts e1 => (M.lift (itemsOf it (OT.views ts)) e1).bind fun xs e2 => lcRun (own.map (·.2)) tgt (semOpt cc) (sem x).1 xs e2) (FinV X.K X.mg H F fp σ Q) := h
    show WP X.K X.mg W σ H F fp (((evs its e).bind fun ts e1 => (M.lift (itemsOf it (OT.views ts)) e1)).bind fun xs e2 => lcRun (own.map (·.2)) tgt (semOpt cc) (sem x).1 xs e2) (FinV X.K X.mg H F fp σ Q)
    cases hm : evs its e with
    | bad => rw [hm] at h; exact h
    | exn y e1 => rw [hm] at h; exact h
    | ok ts e1 => rw [hm] at h; exact h)
/-! ### statements -/
theorem s_nil : JSs X W P [] [] := pss_nilD
theorem s_cons {st : Stmt} {r : List Stmt} {s : IS} {ss : List IS} (h1 : JS X W P s st) (h2 : JSs X W P ss r) : JSs X W P (s :: ss) (st :: r) := pss_consD h1 h2
theorem s_asg (j : Nat) {x : Str} {pos' : Pos} {y : IE} (c : Cq X W k) (he : JE X W y e) (hP : P j = false := by rfl) (hi : X.N[j]? = some x := by rfl) (hx : Loc X.env.scope x := by first | exact Or.inl rfl | exact Or.inr rfl) (hs : swapsWith e (some (.Name x pos')) pos.line X.env = pure false := by rfl) (hf : X.fn x = true ∨ X.env.scope.names.lookup x = some .local := by first | exact .inl rfl | exact .inr rfl) :
    JS X W P (.asg j y) (.Assign [.Name x pos'] e pos) := ps_asgD hP (ps_set c.nd hi hx he hs hf) fun _ _ _ h => h
/-- y = [e for ..] on one row -/
theorem s_lc (j : Nat) {y : Str} {own : List (Str × Nat)} {sc : Scope} {tgt : TGt} {it : ITK} {its : List IE} {cc : Option IE} {ifs : List Expr} {py spos : Pos} (c : Cq X W k) (hi : JI X W it its tg iter) (hg : ∀ (s : Shared) (H : Hp) (C : Addr) (cl : List (Str × Addr)) (fp : List Addr), JG (X.blk s H sc (compEnvC sc cl C X.env) fp) tgt tg)
    (ht : ∀ (s : Shared) (H : Hp) (C : Addr) (cl : List (Str × Addr)) (fp : List Addr), JC (X.blk s H sc (compEnvC sc cl C X.env) fp) W0 cc ifs) (he : ∀ (s : Shared) (H : Hp) (C : Addr) (cl : List (Str × Addr)) (fp : List Addr), JE (X.blk s H sc (compEnvC sc cl C X.env) fp) W0 x elt)
    (hk : X.env.scope.kind = .function := by rfl) (hP : P j = false := by rfl) (hy : X.N[j]? = some y := by rfl) (hyl : X.env.scope.names.lookup y = some .local := by rfl) (hl : (py.line == pos.line) = true := by rfl) (ha : (sc.names.any fun (n, k) => n == y && (k == .local || k == .cell)) = false := by decide +kernel) (ok : blkC X.N X.env.scope sc own = true := by rfl) (hw : (tgt.has.all fun j => (own.map (·.2)).contains j) = true := by rfl) (hs : ∀ x, foldedSetIterable iter X.env x = pure x := by intro _; rfl) :
    JS X W P (.asg j (.lc tgt it its cc x (own.map (·.2)))) (.Assign [.Name y py] (.ListComp elt [⟨tg, iter, ifs, 0⟩] sc pos) spos) := by
  refine ps_asgD hP (ps_setLc (g := gOf X.K tgt) (tt := tDb X.K X.mg W0 (semOpt cc)) (te := tD X.K X.mg W0 (sem x).1) c.calm c.nd hy hyl (sw_true hk hyl hl ha) hi (blkOk_by ok) hg ht he hs) fun σ H Q h => ?_
  exact lc_use hw (by
    obtain ⟨F, e, fp, ss, h⟩ := h
    refine ⟨F, e, fp, ss, ?_⟩
    have h : WP X.K X.mg W σ H F fp ((evs its e).bind fun ts e1 => (M.lift (itemsOf it (OT.views ts)) e1).bind fun xs e2 => lcRun (own.map (·.2)) tgt (semOpt cc) (sem x).1 xs e2) (FinV X.K X.mg H F fp σ Q) := h
    show WP X.K X.mg W σ H F fp (((evs its e).bind fun ts e1 => (M.lift (itemsOf it (OT.views ts)) e1)).bind fun xs e2 => lcRun (own.map (·.2)) tgt (semOpt cc) (sem x).1 xs e2) (FinV X.K X.mg H F fp σ Q)
    cases hm : evs its e with
    | bad => rw [hm] at h; exact h
    | exn y e1 => rw [hm] at h; exact h
    | ok ts e1 => rw [hm] at h; exact h)
theorem s_asgT {tgt : TGt} {y : IE} (he : JE X W y e) (hg : JG X tgt tg) (hP : (tgt.has.all fun j => !P j) = true := by rfl) (hs : swapsWithSole [tg] e pos.line X.env = pure false := by rfl) (hw : swappedStores [tg] e X.env = pure none := by rfl)
    (h1 : (assignEach [tg] X.env).map (·.2) = [assign tg X.env] := by rfl) : JS X W P (.asgT tgt y) (.Assign [tg] e pos) := ps_asgTD hP (ps_asg he hg hs hw h1) fun _ _ _ h => h
theorem s_sto (j : Nat) {y yk : IE} {x : Str} {i : Expr} {p3 : Pos} (c : Cq X W k) (hk : JO X W yk i) (he : JE X W y e) (ho : PE X (.Name x p) (tVar j)) 
    (ha : ∀ v, assign (.Subscript (.Name x p) i p3) X.env v = (do
      let ov ← holding [v] (eval (.Name x p) X.env)
      let iv ← holding [v, ov] (eval i X.env)
      standAt p3
      holding [v, ov, iv] (setItem ov iv v)
      release [v, ov, iv] []) := by intro _; rfl)
    (hs : swapsWithSole [.Subscript (.Name x p) i p3] e pos.line X.env = pure false := by rfl) (hw : swappedStores [.Subscript (.Name x p) i p3] e X.env = pure none := by rfl)
    (h1 : (assignEach [.Subscript (.Name x p) i p3] X.env).map (·.2) = [assign (.Subscript (.Name x p) i p3) X.env] := by rfl) : JS X W P (.sto j [] yk y) (.Assign [.Subscript (.Name x p) i p3] e pos) :=
  ps_stoD (ps_asg he (pg_sub ho hk (set_both c.pw c.ww c.u65) ha) hs hw h1) fun _ _ _ h => h
theorem s_app (j : Nat) {y : IE} {x : Str} {apos cpos : Pos} (ho : PE X (.Name x p) (tVar j)) (he : JE X W y e)
    (hs : swapsWith (.Call (.Attribute (.Name x p) "append" apos) [e] [] cpos) none pos.line X.env = pure false := by rfl)
    (hbase : attributeBase (.Name x p) "append" X.env (eval (.Name x p) X.env) = eval (.Name x p) X.env := by rfl)
    (hline : (apos.endLine == cpos.line) = true := by rfl) (hst : starEach [e] X.env = (false, eval e X.env) :: starEach [] X.env := by rfl)
    (hfew : ((backTo cpos (starEach [e] X.env)).all (fun x => !x.1) && (backToKw cpos (keywordEach [] X.env)).all (fun x => x.1.isSome)
      && decide ([e].length + ([] : List Keyword).length + (if ([] : List Keyword).isEmpty then 0 else 1) < 30)) = true := by rfl) : JS X W P (.app j [] y) (.Expr (.Call (.Attribute (.Name x p) "append" apos) [e] [] cpos) pos) :=
  ps_appD (ps_expr (pe_bm PySem.F.plainAttrs_list PySem.F.slot_list_append PySem.F.type_list_append mt_append ho (pa_cons he pa_nil hst) hbase hfew hline hst) hs) fun _ _ _ h => h
theorem s_ext (j : Nat) {y : IE} {x : Str} {apos cpos : Pos} (ho : PE X (.Name x p) (tVar j)) (he : JE X W y e)
    (hs : swapsWith (.Call (.Attribute (.Name x p) "extend" apos) [e] [] cpos) none pos.line X.env = pure false := by rfl)
    (hbase : attributeBase (.Name x p) "extend" X.env (eval (.Name x p) X.env) = eval (.Name x p) X.env := by rfl)
    (hline : (apos.endLine == cpos.line) = true := by rfl) (hst : starEach [e] X.env = (false, eval e X.env) :: starEach [] X.env := by rfl)
    (hfew : ((backTo cpos (starEach [e] X.env)).all (fun x => !x.1) && (backToKw cpos (keywordEach [] X.env)).all (fun x => x.1.isSome)
      && decide ([e].length + ([] : List Keyword).length + (if ([] : List Keyword).isEmpty then 0 else 1) < 30)) = true := by rfl) : JS X W P (.ext j [] y) (.Expr (.Call (.Attribute (.Name x p) "extend" apos) [e] [] cpos) pos) :=
  ps_extD (ps_expr (pe_bm PySem.F.plainAttrs_list PySem.F.slot_list_extend PySem.F.type_list_extend mt_extend ho (pa_cons he pa_nil hst) hbase hfew hline hst) hs) fun _ _ _ h => h
theorem s_ex {y : IE} (he : JE X W y e) (hs : swapsWith e none pos.line X.env = pure false := by rfl) : JS X W P (.ex y) (.Expr e pos) := ps_exD (ps_expr he hs) fun _ _ _ h => h
theorem s_ret {y : IE} (he : JE X W y e) : JS X W P (.ret y) (.Return (some e) pos) := ps_retD he
theorem s_retN : JS X W P .retN (.Return none pos) := ps_retND
theorem s_brk : JS X W P .brk (.Break pos) := ps_brkD
theorem s_cont : JS X W P .cont (.Continue pos) := ps_contD
theorem s_pass : JS X W P .pass (.Pass pos) := ps_passD
theorem s_if {a b : List Stmt} {sa sb : List IS} {y : IE} (hc : JT X W y c) (ha : JSs X W P sa a) (hb : JSs X W P sb b) : JS X W P (.iff y sa sb) (.If c a b pos) := ps_iffD hc ha hb
theorem s_for {tgt : TGt} {it : ITK} {its : List IE} {body : List Stmt} {sb : List IS} (c : Cq X W k) (hp : PassesOwn (model X.prog X.w) X.A X.env X.xe) (hi : JI X W it its tg iter) (hg : JG X tgt tg) (hb : JSs X W P sb body) (hP : (tgt.has.all fun j => !P j) = true := by rfl) (hs : ∀ x, foldedSetIterable iter X.env x = pure x := by intro _; rfl) :
    JS X W P (.for_ tgt it its sb) (.For tg iter body [] pos) := ps_forD (body := body) hP (ps_for hp c.calm hi hg hb hs)
theorem s_whl {n : Nat} {y : IE} {body : List Stmt} {sb : List IS} (hp : PassesOwn (model X.prog X.w) X.A X.env X.xe) (hc : JT X W y c) (hb : JSs X W P sb body) : JS X W P (.whl n y sb) (.While c body [] pos) := ps_whlD hp hc hb
end
end Rx
end

section
/-! Rx, part 14: a def; the law's own end. -/
namespace Rx
open PySem PySem.Spec PyProof.Rows L2
variable [Prw]
section
variable {K : PySem.W.Frag} {mg : Str → Option Value} {H F : Hp}
theorem EvR.len : ∀ {σ : L2.St} {e : Ev} {fp : List Addr}, EvR K mg H F σ e fp → e.length = σ.length
  | _, _, _, .nil => rfl
  | _, _, _, .cons _ r _ => congrArg (· + 1) (EvR.len r)
theorem EvR.pad (n : Nat) : ∀ {σ : L2.St} {e : Ev} {fp : List Addr}, EvR K mg H F σ e fp → EvR K mg H F (σ ++ List.replicate n none) (e ++ List.replicate n none) fp
  | _, _, _, .nil => by
    induction n with
    | zero => exact .nil
    | succ n ih => exact .cons (fp := []) (fps := []) .no ih fun _ z => nomatch z
  | _, _, _, .cons s r d => .cons s (EvR.pad n r) d
theorem keep_ok : ∀ {ms : List Bool} {vs : List V} {σ : L2.St} {e : Ev} {fp : List Addr}, EvR K mg H F σ e fp → vs.length = ms.length → (∀ i : Nat, ms[i]? = some true → σ[i]? = (vs.map some)[i]?) →
    ∃ fpo, EvR K mg H F (vs.map some) (keepO ms e) fpo ∧ ∀ a ∈ fpo, a ∈ fp
  | [], [], σ, e, fp, r, _, _ => ⟨[], by cases e <;> exact .nil, fun _ z => nomatch z⟩
  | [], _ :: _, _, _, _, _, h, _ => by cases h
  | _ :: _, [], _, _, _, _, h, _ => by cases h
  | m :: ms, v :: vs, _, _, _, .nil, h1, h3 => by
    obtain ⟨fpo, k1, k2⟩ := keep_ok (ms := ms) (vs := vs) (σ := []) (e := []) .nil (by simpa using h1) fun i hi => by simpa using h3 (i + 1) (by simpa using hi)
    have e1 : keepO (m :: ms) [] = none :: keepO ms [] := by cases m <;> rfl
    rw [e1]
    exact ⟨fpo, .cons (fp := []) (fps := fpo) .no k1 (fun _ z => nomatch z), k2⟩
  | m :: ms, v :: vs, _, _, _, .cons (s := s) (o := o) (fp := g) (fps := gs) sl r d, h1, h3 => by
    obtain ⟨fpo, k1, k2⟩ := keep_ok (ms := ms) (vs := vs) r (by simpa using h1) fun i hi => by simpa using h3 (i + 1) (by simpa using hi)
    cases m with
    | true =>
      have e0 : s = some v := by simpa using h3 0 rfl
      subst e0
      exact ⟨g ++ fpo, .cons sl k1 fun a ha q => d a ha (k2 a q), fun a ha => (List.mem_append.mp ha).elim (fun z => List.mem_append_left _ z) fun z => List.mem_append_right _ (k2 a z)⟩
    | false => exact ⟨fpo, .cons (fp := []) (fps := fpo) .no k1 (fun _ z => nomatch z), fun a ha => List.mem_append_right _ (k2 a ha)⟩
end
section
variable {P : Program} {w : World} {K : PySem.W.Frag} {mg : Str → Option Value} {base : Heap}
theorem HasFn.mono {j k : Nat} {x : Str} {ms : List Bool} {f : Fn} (h : HasFn P w K mg base j x ms f) (hk : j ≤ k) : HasFn P w K mg base k x ms f := by
  obtain ⟨fa, fd, ps, F, r⟩ := h.ex
  exact ⟨fa, fd, ps, F.mono hk, r⟩
/-- f promises more than g -/
def Fine (f g : Fn) : Prop := ∀ as, g as ≠ .bad → f as = g as
theorem HasFn.imp {k : Nat} {x : Str} {ms : List Bool} {f g : Fn} (h : HasFn P w K mg base k x ms f) (hf : Fine f g) : HasFn P w K mg base k x ms g := by
  obtain ⟨fa, fd, ps, F, r⟩ := h.ex
  refine ⟨fa, fd, ps, F.imp fun vs H Q E q => ?_, r⟩
  obtain ⟨h0, F, as, fp, h1, h2, h3, h4⟩ := q
  refine ⟨h0, F, as, fp, h1, h2, h3, ?_⟩
  cases hg : g as with
  | bad => rw [hg] at h4; exact h4.elim
  | ok r outs => rw [hf as (by rw [hg]; exact fun z => nomatch z), hg]; rw [hg] at h4; exact h4
  | exn r outs => rw [hf as (by rw [hg]; exact fun z => nomatch z), hg]; rw [hg] at h4; exact h4
def prot (ms : List Bool) (i : Nat) : Bool := ms.getD i false
theorem fn_ok0 {x qual : Str} {st : Stmt} {f : Addr} {fd : FuncData} {N ps : List Str} {k : Nat} {d : Def} (Fu : Fun K x qual st f fd) (S : FnScope N ps (defScope st)) (hn : d.n = N.length) (hp : d.ms.length = ps.length)
    (body : ∀ (cdv : Value) (A : Around) (outer : List Env) (s : Shared) (H : Hp) (E : XK), Cq (cxOf (L2.CX P w) P w K mg base N qual (defScope st) f cdv A outer s H E) (fun c dd _ H' => E c dd H') k →
      PassesOwn (model P w) (cxOf (L2.CX P w) P w K mg base N qual (defScope st) f cdv A outer s H E).A (cxOf (L2.CX P w) P w K mg base N qual (defScope st) f cdv A outer s H E).env (cxOf (L2.CX P w) P w K mg base N qual (defScope st) f cdv A outer s H E).xe →
      JSs (cxOf (L2.CX P w) P w K mg base N qual (defScope st) f cdv A outer s H E) (fun c dd _ H' => E c dd H') (prot d.ms) d.body (defBody st)) (hPW : Prw.P = P ∧ Prw.w = w := by exact ⟨rfl, rfl⟩) : FnOk P w K mg base (L2.CX P w) (k + 1) f fd ps (spF K mg d.ms d.fn) := by
  have hpre : ps.length ≤ N.length := by have := congrArg List.length S.pre; rw [List.length_take] at this; omega
  refine Fu.okX S (fun vs H Q E h => h.1.trans hp) (fun cdv A outer s H vs Q E hr h => ?_)
  refine ⟨_, body cdv A outer s H E ⟨hr, takes_of rfl rfl rfl rfl, rfl, S.nd, hPW.1, hPW.2⟩ (passes_of rfl), ?_⟩
  obtain ⟨hl, F, as, fp, le, ev, ow, h⟩ := h
  have hal : as.length = vs.length := by simpa using ev.len
  have est : L2.start N vs = vs.map some ++ List.replicate (d.n - d.ms.length) none := by unfold L2.start; rw [hn, hl]
  have ev1 : EvR K mg H F (L2.start N vs) (as ++ List.replicate (d.n - d.ms.length) none) fp := by rw [est]; exact ev.pad _
  have big : ∀ {σ : L2.St} {e : Ev} {H' F' : Hp} {fp' : List Addr}, Pr (prot d.ms) (L2.start N vs) σ → EvR K mg H' F' σ e fp' → ∃ fpo, EvR K mg H' F' (vs.map some) (keepO d.ms e) fpo ∧ ∀ a ∈ fpo, a ∈ fp' := fun {σ e H' F' fp'} pr r =>
    keep_ok r hl fun i hi => by
      have h1 : prot d.ms i = true := by unfold prot; rw [List.getD_eq_getElem?_getD, hi]; rfl
      rw [pr i h1, est]
      have hi2 : i < d.ms.length := (List.getElem?_eq_some_iff.mp hi).1
      rw [List.getElem?_append_left (by rw [List.length_map, hl]; exact hi2)]
  refine ⟨F, _, fp, ⟨le, ev1, ow⟩, ?_⟩
  unfold Def.fn endOf at h
  cases hr : run d.body (as ++ List.replicate (d.n - d.ms.length) none) with
  | bad => rw [hr] at h; exact h.elim
  | brk e => rw [hr] at h; exact h.elim
  | ct e => rw [hr] at h; exact h.elim
  | nx e =>
    rw [hr] at h
    intro σ' H' F' fp' st ss pr
    obtain ⟨fpo, k1, k2⟩ := big pr ss.env
    exact h .non H' F' fpo [] (st.sub k2) ss.le k1 (.fz .non) (fun _ z => nomatch z) (fun a ha => ss.own a (k2 a ha)) fun _ z => nomatch z
  | ret t e =>
    rw [hr] at h
    intro v σ' H' F' fpe fpv vp pr
    obtain ⟨fpo, k1, k2⟩ := big pr vp.ss.env
    exact h v H' F' fpo fpv (vp.st.sub fun a ha => (List.mem_append.mp ha).elim (fun z => List.mem_append_left _ z) fun z => List.mem_append_right _ (k2 a z)) vp.ss.le k1 vp.val (fun a ha q => vp.dis a ha (k2 a q)) (fun a ha => vp.ss.own a (k2 a ha)) vp.own
  | exn x e =>
    rw [hr] at h
    intro cls dd σ' H' F' fp' st ss pr ex
    obtain ⟨fpo, k1, k2⟩ := big pr ss.env
    exact h cls dd H' F' fpo (st.sub k2) ss.le k1 (fun a ha => ss.own a (k2 a ha)) ex
theorem fn_ok {x qual : Str} {st : Stmt} {f : Addr} {fd : FuncData} {N ps : List Str} {k : Nat} {d : Def} (Fu : Fun K x qual st f fd) (S : FnScope N ps (defScope st)) (hm : mg x = some (.ref f)) (hn : d.n = N.length) (hp : d.ms.length = ps.length)
    (hb : ∀ (kV doc pm : Value) (an : Option Addr) (cdv ct : Value) (us : List Value), us.length = ps.length → bindArgs (PySem.W.fnOf x qual (defArgs st) (defBody st) (defScope st) .none kV doc pm an cdv ct) ⟨us, []⟩ = pure (ps.zip us))
    (body : ∀ (cdv : Value) (A : Around) (outer : List Env) (s : Shared) (H : Hp) (E : XK), Cq (cxOf (L2.CX P w) P w K mg base N qual (defScope st) f cdv A outer s H E) (fun c dd _ H' => E c dd H') k →
      PassesOwn (model P w) (cxOf (L2.CX P w) P w K mg base N qual (defScope st) f cdv A outer s H E).A (cxOf (L2.CX P w) P w K mg base N qual (defScope st) f cdv A outer s H E).env (cxOf (L2.CX P w) P w K mg base N qual (defScope st) f cdv A outer s H E).xe →
      JSs (cxOf (L2.CX P w) P w K mg base N qual (defScope st) f cdv A outer s H E) (fun c dd _ H' => E c dd H') (prot d.ms) d.body (defBody st)) (hPW : Prw.P = P ∧ Prw.w = w := by exact ⟨rfl, rfl⟩) : HasFn P w K mg base (k + 1) x d.ms d.fn :=
  ⟨f, fd, ps, fn_ok0 Fu S hn hp body hPW, hm, Fu.kp, Fu.binds hb⟩
/-- nothing is promised -/
theorem fn_none {x qual : Str} {st : Stmt} {f : Addr} {fd : FuncData} {N ps : List Str} {k : Nat} {ms : List Bool} (Fu : Fun K x qual st f fd) (S : FnScope N ps (defScope st)) (hm : mg x = some (.ref f))
    (hb : ∀ (kV doc pm : Value) (an : Option Addr) (cdv ct : Value) (us : List Value), us.length = ps.length → bindArgs (PySem.W.fnOf x qual (defArgs st) (defBody st) (defScope st) .none kV doc pm an cdv ct) ⟨us, []⟩ = pure (ps.zip us)) : HasFn P w K mg base k x ms (fun _ => .bad) :=
  ⟨f, fd, ps, ⟨fun vs H Q E h => (by obtain ⟨_, _, _, _, _, _, _, h⟩ := h; exact h.elim), fun A outer s H args us vs Q E hr he hb' hv h => (by obtain ⟨_, _, _, _, _, _, _, h⟩ := h; exact h.elim)⟩, hm, Fu.kp, Fu.binds hb⟩
/-! ### the law's own end -/
def lkI (ns : List Int) : D := .lk (ns.map D.int)
theorem DRs.ints {F : Hp} : ∀ (ns : List Int), DRs K mg F (ns.map V.int) (ns.map D.int)
  | [] => .nil
  | n :: ns => .cons (.int n) (DRs.ints ns)
/-- what a law's def promises: True, for every script -/
def spLaw (K : PySem.W.Frag) : Sp := fun vs H Q E => ∃ (a : Addr) (ns : List Int), vs = [.ref a] ∧ SqL K H a (ns.map V.int) ∧ ns.length ≤ 63 ∧ (∀ z ∈ ns, Builtin.Int.intBits z ≤ 1048576) ∧ ∀ H', Q (.bl true) H'
theorem law_end {f : Fn} {vs : List V} {H : Hp} {Q : VK} {E : XK} (h : spLaw K vs H Q E) (hf : ∀ ns : List Int, ns.length ≤ 63 → (∀ z ∈ ns, Builtin.Int.intBits z ≤ 1048576) → ∃ o, f [some (.fz (lkI ns))] = .ok (.fz (.bl true)) o) : spF K mg [false] f vs H Q E := by
  obtain ⟨a, ns, rfl, hS, hl, hb, q⟩ := h
  refine ⟨rfl, fun b => if b = a then H a else none, [some (.fz (lkI ns))], [], fun b o q => ?_, ?_, fun _ z => (nomatch z), ?_⟩
  · by_cases e : b = a
    · subst e; simpa using q
    · simp [e] at q
  · refine .cons (fp := []) (fps := []) (.so (.fz (.lk (vs := ns.map V.int) ?_ ?_ (DRs.ints ns)))) .nil fun _ z => nomatch z
    · rcases hS with (h | ⟨o, h⟩) | h
      · exact .inl (.inl (by simpa using h))
      · exact .inl (.inr ⟨o, by simpa using h⟩)
      · exact .inr h
    · rw [List.length_map, sizeLine_eq]; omega
  · obtain ⟨o, e⟩ := hf ns hl hb
    rw [e]
    intro v H' F' fpo fpv _ _ _ ov _ _ _
    cases ov with
    | fz h => cases h; exact q _
/-! ### what stands in the module -/
theorem dr_tup {a : Addr} {dd : Option Addr} {its : Array Value} {n : Nat} {sl : Array (Option Value)} {vs : List V} {ds : List D} (l : K.lookup a = some ⟨.type "tuple", dd, .seq its n, sl⟩) (hv : Vals vs its.toList) (hz : decide (its.size ≤ sizeMax) = true) (r : ∀ F, DRs K mg F vs ds) : ∀ F, DR K mg F (.ref a) (.tup ds) := fun F =>
  .tup (.inr ⟨_, its, n, l, rfl, rfl, of_decide_eq_true hz, hv⟩) (by rw [hv.length, Array.length_toList]; exact of_decide_eq_true hz) (r F)
theorem dr_str {F : Hp} {z : Str} {s : List Nat} (h : z = strOf s) (hl : (decide (s.length ≤ sizeMax) && s.all fun c => decide (c < 0x110000)) = true) : DR K mg F (.str z) (.str s) := by
  subst h
  rw [Bool.and_eq_true, List.all_eq_true] at hl
  exact .str (of_decide_eq_true hl.1) fun c hc => of_decide_eq_true (hl.2 c hc)
end
end Rx
end

section
set_option maxHeartbeats 2000000
/-! The program's own error: RightsError(reason), whose __init__ says super().__init__(reason) and stores reason. -/
namespace PySem
namespace ReX
open PySem.W PySem.Calls PyProof.Rows PySem.HandSPX
/-- where the text stands: its first line -/
def iA (l : Nat) : Arguments := { posonlyargs := [], args := [{ arg := "self", annotation := none, pos := ⟨l, 17, l, 21⟩ }, { arg := "reason", annotation := none, pos := ⟨l, 23, l, 29⟩ }], vararg := none, kwonlyargs := [], kw_defaults := [], kwarg := none, defaults := [] }
def iB (l : Nat) : List Stmt := [.Expr (.Call (.Attribute (.Call (.Name "super" ⟨l + 1, 8, l + 1, 13⟩) [] [] ⟨l + 1, 8, l + 1, 15⟩) "__init__" ⟨l + 1, 8, l + 1, 24⟩) [.Name "reason" ⟨l + 1, 25, l + 1, 31⟩] [] ⟨l + 1, 8, l + 1, 32⟩) ⟨l + 1, 8, l + 1, 32⟩, .Assign [.Attribute (.Name "self" ⟨l + 2, 8, l + 2, 12⟩) "reason" ⟨l + 2, 8, l + 2, 19⟩] (.Name "reason" ⟨l + 2, 22, l + 2, 28⟩) ⟨l + 2, 8, l + 2, 28⟩]
def iS : Scope := { kind := .function, names := [(PySem.Str.ofString "self", .local), (PySem.Str.ofString "reason", .local), (PySem.Str.ofString "__class__", .free), (PySem.Str.ofString "super", .globalImplicit)], isGenerator := false, isCoroutine := false, more := [] }
abbrev veTail : List Value := [.type "ValueError", .type "Exception", .type "BaseException", .type "object"]
/-- what the written part says of RightsError, at C, and of its __init__, at fI -/
structure Txt (K : Frag) (mg : Str → Option Value) (P : Program) (C fI : Addr) : Prop where
  gC : mg "RightsError" = some (.ref C)
  gS : mg "super" = none
  cls : ∃ nm q N bs sn sub ab col dd k0 k1 k2 k3 k5, K.lookup C = some (excClassObj nm q C N bs veTail true sn sub ab col dd k0 k1 k2 k3 k5 "ValueError.__new__")
  sa : findIn K (.ref C) "__setattr__" = some (some (.builtin "object.__setattr__"))
  ga : findIn K (.ref C) "__getattribute__" = some (some (.builtin "BaseException.__getattribute__"))
  gg : findIn K (.ref C) "__getattr__" = some none
  noN : findIn K (.ref C) "reason" = some none
  iC : findIn K (.ref C) "__init__" = some (some (.ref fI))
  tC : typeIn K (.ref fI) = some (.type "function")
  kC : keepIn K (.ref C) = true
  exC : subIn K (.ref C) (.type "BaseException") = some true
  veC : subIn K (.ref C) (.type "ValueError") = some true
  tyC : typeIn K (.ref C) = some (.type "type")
  hdC : hasDictIn K C = true
  te : exmOne K (.ref C) (.ref C) = some true
  sup : ks_superIn K C C "__init__" = some (some (.builtin "ValueError.__init__"))
  mro : mroIn K C (.ref C) = some true
  any : nsIn K cStatics "thirdparty.any" = some none
  top : (P.main.scope.names.lookup ("super" : Str)).isSome = false
  fn : ∃ (oc : Value) (od : Option Addr) (doc pm : Value) (an : Option Addr) (cda cc : Addr) (ct : Value) (osl : Array (Option Value)),
    K.lookup fI = some ⟨oc, od, .func (ksFn "__init__" "RightsError.__init__" (iA 4) (iB 4) iS .none .none doc pm an (.ref cda) ct cc), osl⟩ ∧ codeIn K (.ref cda) "RightsError.__init__" = true ∧
    (∃ cl cld csl, K.lookup cc = some ⟨cl, cld, .cell (some (.ref C)), csl⟩) ∧
    ∃ ccl cdd vs ccs file tf, K.lookup cda = some ⟨ccl, cdd, .fields vs, ccs⟩ ∧ vs[2]? = some (.str file tf) ∧ ((P.main.file : Str) == file) = true
theorem one_size (v : Value) : [v].length ≤ sizeLine := by
  rw [sizeLine_eq]
  exact (by decide : 1 ≤ 16777216)
/-- what __init__ leaves of a fresh exception at x -/
structure InitEnd (h h' : Heap) (x C dx : Addr) (v : Value) : Prop where
  keep : ∀ b o, b ≠ x → h.get? b = some o → h'.get? b = some o
  obj : ∃ t1, h'.get? x = some { cls := .ref C, dict := some dx, data := .fields #[.ref t1, .none, .none, .none, .bool false, .none] }
  dbig : h.objs.size ≤ dx
  dne : dx ≠ x
  ns : h'.Ns1 dx (fun y => if y = "reason" then some v else none)
/-- a made RightsError -/
structure OwnMade (h h' : Heap) (e C d : Addr) (v : Value) : Prop where
  keep : ∀ b o, h.get? b = some o → h'.get? b = some o
  new : h.objs.size ≤ e
  obj : ∃ oe vs, h'.get? e = some oe ∧ oe.cls = .ref C ∧ oe.dict = some d ∧ oe.data = .fields vs ∧ vs[1]? = some .none
  dbig : h.objs.size ≤ d
  dne : d ≠ e
  ns : h'.Ns1 d (fun y => if y = "reason" then some v else none)
section
variable {prog : Program} {w : World} {A : Around} {E : Value → Shared → Prop} {R : Result → Shared → Prop} {s : Shared} {K : Frag} {mg mb : Str → Option Value} {C fI : Addr}
theorem ldL {env : Env} {m : Str → Option Value} {x : Str} {pos : Pos} {v : Value} {Q : Value → Shared → Prop} (hn : s.heap.Ns env.locals m) (hv : m x = some v) (h : Q v s)
    (hk : env.scope.kind = .function := by rfl) (hl : env.kindOf x = some .local := by rfl) (hd : (x == ("__debug__" : Str)) = false := by decide) : wpAny (model prog w) A (eval (.Name x pos) env) Q E s := wpAny_Name (wpAny_loadName_local hk hl hn hv h) hd
/-- super().__init__(..) called: the args are laid anew -/
theorem call_mw {nm q : Str} {N u x t0 : Addr} {bs : List Value} {hdct : Bool} {sn : List Str} {sub : List Value} {ab : Bool} {col : Option Bool} {dd : Option Addr} {k0 k1 k2 k3 k5 : Option Value} {rest : List Value} {hh : Heap} {g : Array GenState} {d : Drawn} {tk : Nat} {os : OsState} {Q : Value → Shared → Prop}
    (hC : hh.get? C = some (excClassObj nm q C N bs veTail hdct sn sub ab col dd k0 k1 k2 k3 k5 "ValueError.__new__")) (he : hh.get? x = some (excO C t0)) (hu : hh.get? u = some (kxs_mw "ValueError.__init__" x)) (hz : rest.length ≤ sizeLine)
    (hq : ∀ h' t1, (∀ b o, b ≠ x → hh.get? b = some o → h'.get? b = some o) → h'.get? x = some (excO C t1) → Q .none ⟨h', g, d, tk, os⟩) :
    wpAny (model prog w) A (call (.ref u) rest) Q E ⟨hh, g, d, tk, os⟩ := by
  have FB := F.excBase_ValueError
  refine wpAny_call (codeAny_of_tree ?_)
  show wpAny _ A.in1 (callAny (.ref u) ⟨rest, []⟩) _ _ _
  simp only [callAny]
  refine wpAny_bind (wpAny_load hu ?_)
  simp only [kxs_mw, show (Value.type "method-wrapper" == Value.type "method" || Value.type "method-wrapper" == Value.type "builtin_function_or_method" || Value.type "method-wrapper" == Value.type "method-wrapper") = true by decide, if_true]
  refine KFB.if_so (by decide) ?_
  refine wpAny_bind (check_bound_init FB.toExcCallFacts hC he rfl ?_)
  refine wpAny_bind (wpAny_pure (wpAny_pure ?_))
  refine ⟨plainId_quiet FB.init.plain _, codeAny_builtin FB.initEntry ?_⟩
  exact exc_init_tree (cls := .ref C) (t0 := t0) (dv := none) (c2 := .none) (c3 := .none) (b4 := .bool false) he hz fun h' k e' _ => hq h' _ k e'
theorem re_init (T : Txt K mg prog C fI) {x t0 : Addr} {v : Value} (X : K.In s.heap) (hg : s.heap.Ns mainGlobals mg) (hb : s.heap.Ns builtinsNs mb) (hmb : mb "super" = some (.type "super")) (hlim : s.heap.NoLimit) (hx : s.heap.get? x = some (excO C t0)) (hnx : K.lookup x = none) (hroom : A.depth < recursionLimit)
    (hq : ∀ h' tk dx, InitEnd s.heap h' x C dx v → R (.ok (.ret .none)) { s with heap := h', toks := tk }) :
    codeAny (model prog w) A (.call (.ref fI) ⟨[.ref x, v], []⟩) R s := by
  obtain ⟨oc, od, doc, pm, an, cda, cc, ct, osl, ho, hcd, ⟨cl, cld, csl, hcell⟩, ccl, cdd, vs, ccs, file, tf, hcode, hvs, hfile⟩ := T.fn
  obtain ⟨nm, q, N, bs, sn, sub, ab, col, dd, k0, k1, k2, k3, k5, hC⟩ := T.cls
  have hcl : clsIn K C = some { name := nm, bases := bs, mro := .ref C :: veTail, ns := N, qualname := q, hasDict := true, slotNames := sn, subclasses := sub, abstract := ab, collection := col, hasDel := false } := by unfold clsIn; rw [hC] <;> rfl
  refine ks_codeAny_call_defAt (fd := ksFn "__init__" "RightsError.__init__" (iA 4) (iB 4) iS .none .none doc pm an (.ref cda) ct cc) (body := iB 4) (binds := [("self", .ref x), ("reason", v)]) hroom (X _ _ ho) rfl hlim (codeRec_of X hcd) rfl (BindsTo.of_eq (by first | rfl | with_unfolding_all rfl)) (fun y hy => by rcases List.mem_cons.mp hy with rfl | hy; (· decide); rcases List.mem_cons.mp hy with rfl | hy; (· decide); rcases List.mem_cons.mp hy with rfl | hy; (· decide); rcases List.mem_cons.mp hy with rfl | hy; (· decide); cases hy) (fun y hy => by rcases List.mem_cons.mp hy with rfl | hy; (· rfl); rcases List.mem_cons.mp hy with rfl | hy; (· rfl); cases hy) (fun h₁ hns hk₁ => ?_)
  have hn : h₁.Ns s.heap.objs.size (fun y => [(("self" : Str), Value.ref x), ("reason", v)].reverse.lookup y) := hns
  have hxL : s.heap.objs.size ≠ x := Nat.ne_of_gt (Heap.lt_size hx)
  have X₁ : K.In h₁ := X.keeps hk₁
  have hx₁ := hk₁ _ _ hx
  obtain ⟨hp, g, d, tk, os⟩ := s
  -- super().__init__(reason)
  refine ks_wpAt_execs_cons (ks_wpAt_Expr_any (ks_wpAt_MethodCall (ks_wpAt_super_base (f := fI) (cc := cda) rfl rfl rfl rfl (X₁ _ _ ho) rfl rfl rfl (X₁ _ _ hcode) rfl hvs hfile T.top ?_)))
  refine ks_loadName_global rfl rfl (loadGlobal_builtin (mg := mg) (mb := mb) (hg.keeps hk₁) T.gS (hb.keeps hk₁) hmb ⟨rfl, ?_⟩)
  refine wpAny_loadName_free rfl rfl rfl ⟨_, X₁ _ _ hcell, rfl⟩ ?_
  refine wpAny_loadName_local rfl rfl hn rfl ?_
  refine ks_wpAny_isType_cls (X₁ _ _ hC) rfl ⟨rfl, ?_⟩
  refine ks_wpAny_call_super (X₁ _ _ hC) rfl hx₁ rfl (fun c e => nomatch e) (looks_mroIn X₁ T.mro) (fun h₂ hso k₂ => ?_)
  have X₂ : K.In h₂ := X₁.keeps k₂
  have hx₂ := k₂ _ _ hx₁
  have hn₂ := hn.keeps k₂
  have hxC : x ≠ C := fun z => by rw [z, hC] at hnx; cases hnx
  have hsup : alongIn K "__init__" veTail = some (some (.builtin "ValueError.__init__")) := by
    have := T.sup
    unfold ks_superIn at this
    rw [hcl] at this
    simpa using this
  have I₂ : InstAt h₂ x (excO C t0) C none := ⟨hx₂, rfl, rfl, trivial⟩
  refine kxs_getMethod kxs_ValueError (l₀ := .ref C :: veTail) (l := veTail) hso (looks_opaque X₂ T.any) (fun A Q E s k q => wpAny_bind ((looks_clsIn X₂ hcl) A _ E s k (wpAny_pure q))) (by simp) X₂ hsup (I₂.type.andThen (looks_subIn X₂ T.veC)) hxC rfl ?_
  have k₃ : ∀ b o, h₂.get? b = some o → (h₂.push (kxs_mw "ValueError.__init__" x)).get? b = some o := fun b o e => Heap.get?_push_of_some _ e
  refine kxs_callWith (i := "ValueError.__init__") (x := x) rfl (evalArgs_plain (Calls.spliced_cons (ldL (hn₂.keeps k₃) (v := v) rfl (Calls.spliced_nil ⟨(Heap.get?_push_at rfl rfl : _ = some (kxs_mw "ValueError.__init__" x)), ?_⟩))))
  refine call_mw (k₃ _ _ (k₂ _ _ (X₁ _ _ hC))) (k₃ _ _ hx₂) (Heap.get?_push_at rfl rfl) (one_size v) fun h₄ t1 k₄ hx₄ => ?_
  have X₄ : K.In h₄ := fun a o e => k₄ a o (fun z => by rw [z, hnx] at e; cases e) (k₃ _ _ (X₂ a o e))
  have hn₄ : h₄.Ns hp.objs.size (fun y => [(("self" : Str), Value.ref x), ("reason", v)].reverse.lookup y) := by
    obtain ⟨oL, es, ep, hL, r⟩ := hn₂.keeps k₃
    exact ⟨oL, es, ep, k₄ _ _ hxL hL, r⟩
  -- self.reason = reason
  refine ks_wpAt_execs_cons (ks_wpAt_Assign_Attr (wpAt_of_wpAny (ldL (v := v) hn₄ rfl (ldL (v := .ref x) hn₄ rfl ?_))))
  refine set_plain X₄ (ox := excO C t1) (od := none) ⟨hx₄, rfl, rfl, trivial⟩ T.sa ?_
  refine exc_osa X₄ hx₄ hcl (show refsVE (.ref C :: veTail) = true from (by decide +kernel : refsVE veTail = true)) rfl T.noN (fun h₅ tk₅ dx k₅ dn dne hx₅ hn₅ => ?_)
  have kk : ∀ b o, b ≠ x → hp.get? b = some o → h₅.get? b = some o := fun b o hb e => k₅ b o hb (k₄ b o hb (k₃ _ _ (k₂ _ _ (hk₁ _ _ e))))
  have z : hp.objs.size < h₁.objs.size := hn.lt
  refine wpAt_of_wpAny (wpAny_execs_nil (hq h₅ tk₅ dx ⟨kk, ⟨_, hx₅⟩, ?_, dne, hn₅⟩))
  have z4 : hp.objs.size < h₄.objs.size := hn₄.lt
  exact Nat.le_of_lt (Nat.lt_of_lt_of_le z4 dn)
theorem re_made (T : Txt K mg prog C fI) {v : Value} (X : K.In s.heap) (hg : s.heap.Ns mainGlobals mg) (hb : s.heap.Ns builtinsNs mb) (hmb : mb "super" = some (.type "super")) (hlim : s.heap.NoLimit) (hroom : A.depth + 1 < recursionLimit)
    (hq : ∀ h' tk e d, OwnMade s.heap h' e C d v → R (.ok (.ret (.ref e))) { s with heap := h', toks := tk }) :
    codeAny (model prog w) A (.call (.ref C) ⟨[v], []⟩) R s := by
  obtain ⟨nm, q, N, bs, sn, sub, ab, col, dd, k0, k1, k2, k3, k5, hC⟩ := T.cls
  obtain ⟨hp, g, dr, tk, os⟩ := s
  have k : ∀ b o, hp.get? b = some o → ((hp.push (kdv_tup [v])).push (excO C hp.objs.size)).get? b = some o := fun b o e => Heap.get?_push_of_some _ (Heap.get?_push_of_some _ e)
  have hget : ((hp.push (kdv_tup [v])).push (excO C hp.objs.size)).get? (hp.objs.size + 1) = some (excO C hp.objs.size) := by heap_get
  have hnx : K.lookup (hp.objs.size + 1) = none := by
    cases e : K.lookup (hp.objs.size + 1) with
    | none => rfl
    | some o =>
      have z : hp.get? (hp.objs.size + 1) = some o := X _ _ e
      exact absurd (Nat.lt_of_succ_lt (Heap.lt_size z)) (Nat.lt_irrefl _)
  refine call_own F.excBase_ValueError (fun X => refsVE_contains X veTail (by decide +kernel)) (X _ _ hC) (looks_findIn X T.iC) (fun self => bind_fn X self T.tC) (one_size v) ?_
  refine re_init (s := ⟨(hp.push (kdv_tup [v])).push (excO C hp.objs.size), g, dr, tk, os⟩) T (X.keeps k) (hg.keeps k) (hb.keeps k) hmb (hlim.keeps k) hget hnx ?_ fun h' tk' dx ⟨k', hx, dn, dne, hns⟩ => ?_
  · show A.depth + 1 < recursionLimit
    exact hroom
  · have old : ∀ b o, hp.get? b = some o → h'.get? b = some o := fun b o e => k' b o (Nat.ne_of_lt (Nat.lt_succ_of_lt (Heap.lt_size e))) (k b o e)
    have z : hp.objs.size + 1 + 1 ≤ dx := by
      first
        | (simpa only [Heap.size_push] using dn)
        | exact dn
        | (have q := dn; rw [Heap.size_push, Heap.size_push] at q; exact q)
    obtain ⟨t1, hx⟩ := hx
    exact ⟨rfl, hq h' tk' (hp.objs.size + 1) dx ⟨old, Nat.le_succ _, ⟨_, _, hx, rfl, rfl, rfl, rfl⟩, Nat.le_trans (Nat.le_trans (Nat.le_succ _) (Nat.le_succ _)) z, dne, hns⟩⟩
end
end ReX
end PySem

namespace L2
open PySem PySem.Spec PyProof.Rows
theorem relO_re {v : V} {v' : Value} (r : RelV v v') (f : Str) : RelO (List.lookup f [(("reason" : Str), v)]) (if f = "reason" then some v' else none) := by
  by_cases hw : f = "reason"
  · subst hw
    rw [if_pos rfl]
    have q : List.lookup ("reason" : Str) [(("reason" : Str), v)] = some v := by simp [List.lookup]
    rw [q]
    exact r
  · rw [if_neg hw]
    have qw : (f == ("reason" : Str)) = false := by simpa using hw
    have q2 : List.lookup f [(("reason" : Str), v)] = none := by simp [List.lookup, qw]
    rw [q2]
    trivial
section
variable {X : Cx} {C fI : Addr}
/-- RightsError(e) -/
def tMkRe (C : Addr) (ta : TA) : St → Hp → XK → Prop := fun σ H Q => ta σ H fun vs H1 => ∃ v, vs = [v] ∧ ∀ d, H1 d = none → Q (.ref C) (some d) (upd H1 d (.xd [(("reason" : Str), v)]))
theorem pmk_re {a : Expr} {ta : TA} {p pos : Pos} {k : Nat} (T : PySem.ReX.Txt X.K X.mg X.prog C fI) (hr : Room k X.A) (hk : 1 ≤ k) (ha : PA X [a] ta) (hg : Gl X "RightsError" := by rfl)
    (he : starEach (a :: []) X.env = (false, eval a X.env) :: starEach [] X.env := by rfl) (hpl : (backTo pos (starEach [] X.env)).any (·.1) = false := by rfl) :
    PMk X (.Call (.Name "RightsError" p) [a] [] pos) (tMkRe C ta) := by
  intro pins s σ H Q I h
  refine wpAny_Call_Name_kw (ld_glob I hg T.gC ?_)
  refine PySem.W.callWith_K (h₀ := X.base) I.ok.mod.kin T.kC (thn (ha.run pos pins s σ H _ I h) fun us s1 hh => ?_) he hpl
  obtain ⟨vs, H1, I1, r1, v, ev, q1⟩ := hh
  subst ev
  refine ⟨I1.kIn, ?_⟩
  cases r1 with
  | cons rv rn =>
    rename_i v' us'
    cases rn
    show wpAny _ _ (call (.ref C) [v']) _ _ _
    have hlim := I1.nolimit
    obtain ⟨mb, hb, hmb⟩ := I1.mod.blt
    have hg1 := I1.mod.glob.keeps I1.bk
    have hb1 := hb.keeps I1.bk
    obtain ⟨hp, g, dr, tk, os⟩ := s1
    refine wpAny_call (PySem.ReX.re_made T I1.kIn hg1 hb1 ((hmb "super" (by decide)).trans rfl) hlim (by have := hr.dp; omega) fun h' tk' e d M => ?_)
    show MkP X pins σ Q (.ref e) ⟨h', g, dr, tk', os⟩
    obtain ⟨oe, fv, hoe, hc, hd, hdat, h1⟩ := M.obj
    have hns := M.ns
    obtain ⟨G', g1, g2⟩ := restrict h' fun b => decide (b ≠ e)
    have gk : ∀ b, b ≠ e → G'.get? b = h'.get? b := fun b hb => g1 b (decide_eq_true hb)
    have ge : G'.get? e = none := g2 e (by simp)
    have old : ∀ b o, hp.get? b = some o → G'.get? b = some o := fun b o q => (gk b (Nat.ne_of_lt (Nat.lt_of_lt_of_le (Heap.lt_size q) M.new))).trans (M.keep b o q)
    have ob : ObjOk X.prog X.w (upd H1 d (.xd [(("reason" : Str), v)])) G' d (.xd [(("reason" : Str), v)]) :=
      ⟨_, hns.at (fun o q => (gk d M.dne).trans q), fun f => relO_re rv f⟩
    have J : Inv X pins σ (upd H1 d (.xd [(("reason" : Str), v)])) ⟨G', g, dr, tk', os⟩ := I1.laid (t' := tk') old M.dbig ob
    refine ⟨e, oe, fv, ⟨G', g, dr, tk', os⟩, _, .ref C, some d, rfl, J, fun b o q => ?_, ge, hoe, ⟨hc, hd⟩, hdat, h1, ?_, rfl, I1.bare, raises_own T.exC T.tyC, q1 d (I1.hok.fresh M.dbig)⟩
    · by_cases hb : b = e
      · have q' : G'.get? b = some o := q
        rw [hb, ge] at q'; cases q'
      · exact (gk b hb).symm.trans q
    · rw [upd_ne (Ne.symm M.dne)]
      exact I1.hok.fresh M.new
/-- err.reason, err the exception that the suite holds (at a; its class cls, its dict d) -/
def tReason (C : Addr) (a : Addr) (cls : Value) (d : Option Addr) (te : TE) : TE := fun σ H Q => te σ H fun x H1 => x = .ref a ∧ cls = .ref C ∧ ∃ (dd : Addr) (v : V), d = some dd ∧ H1 dd = some (.xd [(("reason" : Str), v)]) ∧ Q v H1
theorem pe_reason {a : Addr} {oe : Obj} {cls : Value} {d : Option Addr} {pn : List (Addr × Obj)} {e : Expr} {te : TE} {pos : Pos} (T : PySem.ReX.Txt X.K X.mg X.prog C fI) (hz : Zc cls d oe) (hf : ∃ vs, oe.data = .fields vs) (he : PE (X.suite a ((a, oe) :: pn)) e te)
    (hb : attributeBase e "reason" X.env (eval e X.env) = eval e X.env := by rfl) :
    PE (X.suite a ((a, oe) :: pn)) (.Attribute e "reason" pos) (tReason C a cls d te) := by
  refine ⟨fun pins s σ H Q I h => ?_⟩
  refine attr_of hb (thn (he.run pins s σ H _ I h) fun u s1 hh => ?_)
  obtain ⟨x, H1, I1, rx, ex, ec, dd, v, ed, ea, q⟩ := hh
  subst ex
  obtain rfl : u = Value.ref a := rx
  subst ec
  subst ed
  obtain ⟨ha, _⟩ := I1.pin (a, oe) (List.mem_append_left _ List.mem_cons_self)
  obtain ⟨vs, hd⟩ := hf
  have hx : ObjOk X.prog X.w H1 s1.heap dd (.xd [(("reason" : Str), v)]) := I1.hok dd _ ea
  obtain ⟨mA, hns, hr⟩ := hx
  obtain ⟨od, ho, hl⟩ := lookIn_ns hns
  have l : List.lookup ("reason" : Str) [(("reason" : Str), v)] = some v := by simp [List.lookup]
  obtain ⟨u, hu, ru⟩ := RelO.some_of (v := v) (o := mA "reason") (by rw [← l]; exact hr "reason")
  have J : PySem.W.InstAt s1.heap a oe C (some od) := ⟨ha, hz.1, by unfold PySem.W.notCls; rw [hd] <;> rfl, by rw [hz.2]; exact ho⟩
  exact HandSPX.exc_get I1.kIn J T.ga T.gg T.exC (PySem.W.findObj_own T.hdC T.noN rfl (by rw [hl, hu])) (handed_of ru) ⟨v, H1, I1.tok _, ru, q⟩
end
end L2
end

section
/-! Rx, part 15: the program's own error: raised, caught. -/
namespace Rx
open PySem PySem.Spec PyProof.Rows L2
variable [Prw]
section
variable {X : Cx} {W : WX} {k : Nat} {P : Nat → Bool} {pos p p2 : Pos} {a b c e elt iter tg : Expr} {es rest : List Expr} {xa xb xc x : IE} {xs : List IE} {C fI : Addr}
theorem s_raise (c : Cq X W k) (T : PySem.ReX.Txt X.K X.mg X.prog C fI) (ha : JE X W x a) (hk : decide (1 ≤ k) = true := by rfl) (hg : Gl X "RightsError" := by rfl)
    (he : starEach (a :: []) X.env = (false, eval a X.env) :: starEach [] X.env := by rfl) (hpl : (backTo pos (starEach [] X.env)).any (·.1) = false := by rfl) :
    JS X W P (.rais "RightsError" reOf [x]) (.Raise (some (.Call (.Name "RightsError" p) [a] [] pos)) none p2) := by
  refine PS.imp (ps_raise c.calm c.tk (pmk_re T c.room (of_decide_eq_true hk) (l_cons ha l_nil he) hg he hpl)) fun D σ H h => ?_
  obtain ⟨F, en, fp, ss, h⟩ := h
  have h : WS X.K X.mg W P D H F fp σ ((evs [x] en).st fun ts e1 => (M.lift (reOf (OT.views ts)) e1).st fun x e1 => .exn x e1) := by
    have h : WS X.K X.mg W P D H F fp σ (((evs [x] en).bind fun ts e1 => M.lift (reOf (OT.views ts)) e1).st fun x e1 => .exn x e1) := h
    cases hm : evs [x] en with
    | bad => rw [hm] at h; exact h
    | ok t e1 => rw [hm] at h; exact h
    | exn t e1 => rw [hm] at h; exact h
  refine tDs_st Stp.refl Pr.refl ss h fun vs ts H1 F1 fpe fpv e1 p h1 => ?_
  obtain ⟨q1, q2, q3⟩ := p.frz
  cases hv : OT.views ts with
  | nil => rw [hv] at h1; exact h1.elim
  | cons d ds =>
    cases ds with
    | cons d2 ds => rw [hv] at h1; exact h1.elim
    | nil =>
      rw [hv] at h1 q3
      cases q3 with
      | cons r1 r2 =>
        rename_i v vs
        cases r2
        refine ⟨v, rfl, fun dd hdd => ?_⟩
        have h1 : WS X.K X.mg W P D H F fp σ (.exn ⟨"RightsError", [("reason", d)]⟩ e1) := h1
        refine h1 (.ref C) (some dd) σ _ (frzF F1 H1 fpv) fpe ((q1.trans (Stp.newO hdd)).sub fun a ha => List.mem_cons_of_mem _ ha) ⟨same_new q2.le hdd, q2.env.keep (Same.refl _) fun a ha o e => by rw [upd_ne (ne_of_none e hdd)]; exact e, q2.own⟩ Pr.refl ⟨C, dd, [("reason", v)], T.gC, rfl, rfl, upd_same, .cons r1 .nil⟩
theorem Cq.tr (c : Cq X W k) {W' : WX} {pn : List (Addr × Obj)} {xe : Value → Shared → Prop} (tk : Takes (X.tr pn xe) W') : Cq (X.tr pn xe) W' k := ⟨c.room, tk, c.calm, c.nd, c.pw, c.ww⟩
theorem s_tryR {n : Str} {sb : List IS} {body : List Stmt} {np pos' p3 p4 p5 : Pos} (j : Nat) (c : Cq X W k) (T : PySem.ReX.Txt X.K X.mg X.prog C fI) (hb : ∀ (W' : WX) (pn : List (Addr × Obj)) (xe : Value → Shared → Prop), Cq (X.tr pn xe) W' k → PassesOwn (model X.prog X.w) X.A X.env xe → JSs (X.tr pn xe) W' P sb body)
    (hs : X.stack = X.env :: X.outer := by rfl) (hf : X.env.frame = some X.env.locals := by rfl) (hi : X.N[j]? = some n := by rfl) (hln : X.env.kindOf n = some .local := by rfl) (hv : Vis X.env.scope n := by exact Or.inl rfl) (hg : Gl X "RightsError" := by rfl) (hd : (n == ("__debug__" : Str)) = false := by decide) (hcd : (n == ("__classdict__" : Str)) = false := by decide) :
    JS X W P (.tryR sb "RightsError" j "reason") (.Try body [.ExceptHandler (some (.Name "RightsError" np)) (some n) [.Return (some (.Attribute (.Name n p3) "reason" p4)) p5] pos'] [] [] pos) := by
  refine PS.imp (ps_try_as (i := j) (c := .ref C) (tb := fun W' => tSX X W' P (run sb)) (ts := fun a cls d => tRet (tReason C a cls d (tVar j))) (Wout := W) hs hf c.nd hi hln ⟨hg, by decide, .inl T.gC⟩ c.tk
    (fun W' pn xe tk hp => hb W' pn xe (c.tr tk) hp) fun a oe cls d pn hz hf => pss_one (ps_ret (pe_reason T hz hf (pe_var hi hv hd hcd)))) fun D σ H h => ?_
  obtain ⟨F, en, fp, ss, h⟩ := h
  refine ⟨F, en, fp, ss, ?_⟩
  have h : WS X.K X.mg W P D H F fp σ (tryS "RightsError" (retF j "reason") (run sb en)) := h
  cases hm : run sb en with
  | bad => rw [hm] at h; exact h
  | nx e1 => rw [hm] at h; exact h
  | brk e1 => rw [hm] at h; exact h
  | ct e1 => rw [hm] at h; exact h
  | ret t e1 => rw [hm] at h; exact h
  | exn x e1 =>
    rw [hm] at h
    have h : WS X.K X.mg W P D H F fp σ (if x.cls = "RightsError" then retF j "reason" x.fs e1 else .bad) := h
    by_cases hc : x.cls = "RightsError"
    · rw [if_pos hc] at h
      unfold retF at h
      by_cases hl : j < e1.length
      · rw [if_pos hl] at h
        obtain ⟨xc, xf⟩ := x
        subst hc
        intro cls d σ' H' F' fp' st s1 pr ex
        obtain ⟨C', dd, fs, hC, rfl, rfl, hdd, rf⟩ := ex
        have hC : X.mg "RightsError" = some (.ref C') := hC
        have eC : C' = C := by
          have := hC.symm.trans T.gC
          cases this; rfl
        subst eC
        cases rf with
        | nil => exact h.elim
        | cons r1 r2 =>
          cases r2 with
          | cons r3 r4 => exact h.elim
          | nil =>
            rename_i g v d0 h0
            dsimp only at h hdd
            by_cases hgf : g = "reason"
            · subst hgf
              rw [if_pos rfl] at h
              refine ⟨true, T.te, fun _ a ha => ?_, fun z => nomatch z⟩
              refine ⟨.ref a, ?_, rfl, rfl, dd, v, rfl, hdd, h v σ' H' F' fp' [] ⟨st, s1, .fz r1, (fun _ z => nomatch z), fun _ z => nomatch z⟩ pr⟩
              rw [List.getElem?_set_self (by rw [s1.env.length]; exact hl)]
            · rw [if_neg hgf] at h; exact h.elim
      · rw [if_neg hl] at h; exact h.elim
    · rw [if_neg hc] at h; exact h.elim
/-- except RightsError: return x -/
theorem s_tryC {sb : List IS} {body : List Stmt} {np pos' p5 : Pos} (c : Cq X W k) (T : PySem.ReX.Txt X.K X.mg X.prog C fI) (hb : ∀ (W' : WX) (pn : List (Addr × Obj)) (xe : Value → Shared → Prop), Cq (X.tr pn xe) W' k → PassesOwn (model X.prog X.w) X.A X.env xe → JSs (X.tr pn xe) W' P sb body)
    (hx : ∀ (a : Addr) (pn : List (Addr × Obj)) (W' : WX), JE (X.suite a pn) W' x e)
    (hs : X.stack = X.env :: X.outer := by rfl) (hf : X.env.frame = some X.env.locals := by rfl) (hg : Gl X "RightsError" := by rfl) :
    JS X W P (.tryC sb "RightsError" x) (.Try body [.ExceptHandler (some (.Name "RightsError" np)) none [.Return (some e) p5] pos'] [] [] pos) := by
  refine PS.imp (ps_try_only (c := .ref C) (tb := fun W' => tSX X W' P (run sb)) (ts := fun a cls d => tRet (tDX X (fun _ _ _ _ => False) (sem x).1)) (Wout := W) hs hf ⟨hg, by decide, .inl T.gC⟩ c.tk
    (fun W' pn xe tk hp => hb W' pn xe (c.tr tk) hp) fun a oe cls d pn hz hf => pss_one (ps_ret (hx _ _ _))) fun D σ H h => ?_
  obtain ⟨F, en, fp, ss, h⟩ := h
  refine ⟨F, en, fp, ss, ?_⟩
  have h : WS X.K X.mg W P D H F fp σ (tryS "RightsError" (fun _ e1 => (noX ((sem x).1 e1)).st fun t e2 => .ret t e2) (run sb en)) := h
  cases hm : run sb en with
  | bad => rw [hm] at h; exact h
  | nx e1 => rw [hm] at h; exact h
  | brk e1 => rw [hm] at h; exact h
  | ct e1 => rw [hm] at h; exact h
  | ret t e1 => rw [hm] at h; exact h
  | exn y e1 =>
    rw [hm] at h
    have h : WS X.K X.mg W P D H F fp σ (if y.cls = "RightsError" then (noX ((sem x).1 e1)).st (fun t e2 => .ret t e2) else .bad) := h
    by_cases hc : y.cls = "RightsError"
    · rw [if_pos hc] at h
      intro cls d σ' H' F' fp' st s1 pr ex
      obtain ⟨C', dd, fs, hC, rfl, rfl, hdd, rf⟩ := ex
      rw [hc] at hC
      have eC : C' = C := by
        have := hC.symm.trans T.gC
        cases this; rfl
      subst eC
      refine ⟨true, T.te, fun _ a ha => ?_, fun z => nomatch z⟩
      refine ⟨F', e1, fp', s1, ?_⟩
      cases hm2 : (sem x).1 e1 with
      | bad => rw [hm2] at h; exact h.elim
      | exn y e2 => rw [hm2] at h; exact h.elim
      | ok t e2 =>
        rw [hm2] at h
        exact fun v H1 F1 fpe fpv vp => h v σ' H1 F1 fpe fpv (vp.pre st) pr
    · rw [if_neg hc] at h; exact h.elim
end
end Rx
end

section
/-! Rx, part 16: instances: made, their attributes stored and read. -/
namespace Rx
open PySem PySem.Spec PyProof.Rows L2
variable [Prw]

section
variable {X : Cx} {CX : CXT} {k : Nat} {f C : Addr} {fd : FuncData} {ps : List Str} {sp : Sp} {x : Str} {p pos : Pos} {e : Expr} {es : List Expr} {t : TA}
theorem run_makeS {pins : List (Addr × Obj)} {σ : L2.St} {H : Hp} {s : Shared} {Q : VK} {us : List Value} {vs : List V} {E : XK} (M : Mk X.K C f) (F : FnOk X.prog X.w X.K X.mg X.base CX k f fd ps sp) (hr : Room (k + 1) X.A) (hb : Binds X.K fd ps [])
    (hx : PassesAt CX X σ E) (I : Inv X pins σ H s) (r : Vals vs us)
    (h : ∀ x dx, H x = none → H dx = none → dx ≠ x → sp (.ref x :: vs) (upd (upd H dx (.own x)) x (.ins C dx [])) (fun v H2 => v = .non ∧ Q (.ref x) H2) E) :
    wpAny (model X.prog X.w) X.A (call (.ref C) us) (EP X pins σ Q) X.xe s := by
  have hq := h (s.heap.objs.size + 1) s.heap.objs.size (I.hok.fresh (Nat.le_succ _)) (I.hok.fresh (Nat.le_refl _)) (Nat.ne_of_lt (Nat.lt_succ_self _))
  have I2 := Inv.made (C := C) I
  have r2 : Vals (V.ref (s.heap.objs.size + 1) :: vs) (Value.ref (s.heap.objs.size + 1) :: us) := .cons rfl r
  have hl : (Value.ref (s.heap.objs.size + 1) :: us).length = ps.length := by
    have e := r2.length
    rw [F.len _ _ _ _ hq] at e
    exact e.symm
  have b := hb { s with heap := (s.heap.push PySem.W.emptyDict).push (PySem.W.instObj C s.heap.objs.size) } (Value.ref (s.heap.objs.size + 1) :: us) I2.kIn (by rw [List.append_nil]; exact hl)
  rw [List.append_nil] at b
  refine wpAny_call (make_map (f := f) I.kIn M.makes M.init (beq_iff_eq.mp M.fn) (codeAny_mono (F.run _ X.stack _ _ ⟨Value.ref (s.heap.objs.size + 1) :: us, []⟩ (Value.ref (s.heap.objs.size + 1) :: us) _ _ E (hr.make C us [])
    (I2.env0.make C us []) b r2 hq) fun r s' hq' => ?_))
  cases r with
  | error e => exact hx pins _ _ e s' I2 hq'
  | ok fl =>
    cases fl with
    | ret u =>
      obtain ⟨v, H', I3, rv, ev, q3⟩ := I2.after hq'
      subst ev
      exact ⟨rv, ⟨V.ref (s.heap.objs.size + 1), H', I3, rfl, q3⟩⟩
    | next => exact False.elim hq'
    | brk => exact False.elim hq'
    | cont => exact False.elim hq'
def tMakeS (C : Addr) (sp : Sp) (E : L2.St → XK) (t : TA) : TE := fun σ H Q => t σ H fun vs H1 => ∀ x dx, H1 x = none → H1 dx = none → dx ≠ x → sp (.ref x :: vs) (upd (upd H1 dx (.own x)) x (.ins C dx [])) (fun v H2 => v = .non ∧ Q (.ref x) H2) (E σ)
theorem pe_makeS {E : L2.St → XK} (M : Mk X.K C f) (F : FnOk X.prog X.w X.K X.mg X.base CX k f fd ps sp) (hr : Room (k + 1) X.A) (hg : Gl X x) (hm : X.mg x = some (.ref C)) (hb : Binds X.K fd ps []) (hx : ∀ σ, PassesAt CX X σ (E σ))
    (ha : PA X (e :: es) t) (hdb : (x == ("__debug__" : Str)) = false) (he : starEach (e :: es) X.env = (false, eval e X.env) :: starEach es X.env) (hpl : (backTo pos (starEach es X.env)).any (·.1) = false) :
    PE X (.Call (.Name x p) (e :: es) [] pos) (tMakeS C sp E t) := by
  refine ⟨fun pins s σ H Q I h => ?_⟩
  refine wpAny_Call_Name_kw (ld_glob I hg hm ?_ hdb)
  refine PySem.W.callWith_K (h₀ := X.base) I.ok.mod.kin M.kp (thn (ha.run pos pins s σ H _ I h) fun us s1 ⟨vs, H1, I1, r, q⟩ => ⟨I1.kIn, ?_⟩) he hpl
  exact run_makeS M F hr hb (hx σ) I1 r q
theorem pe_makeS0 {E : L2.St → XK} (M : Mk X.K C f) (F : FnOk X.prog X.w X.K X.mg X.base CX k f fd ps sp) (hr : Room (k + 1) X.A) (hg : Gl X x) (hm : X.mg x = some (.ref C)) (hb : Binds X.K fd ps []) (hx : ∀ σ, PassesAt CX X σ (E σ))
    (hdb : (x == ("__debug__" : Str)) = false) : PE X (.Call (.Name x p) [] [] pos) (tMakeS C sp E tNil) := by
  refine ⟨fun pins s σ H Q I h => ?_⟩
  refine wpAny_Call_Name_kw (ld_glob I hg hm ?_ hdb)
  exact PySem.W.callWith_K0 I.kIn M.kp (run_makeS (us := []) M F hr hb (hx σ) I .nil h)
end

/-- the class c is made by the def f, with n arguments -/
structure HasMk (P : Program) (w : World) (K : PySem.W.Frag) (mg : Str → Option Value) (base : Heap) (k : Nat) (c : Str) (n : Nat) (f : Fn) : Prop where
  ex : ∃ (C fI : Addr) (fd : FuncData) (ps : List Str), FnOk P w K mg base (L2.CX P w) k fI fd ps (spF K mg (true :: List.replicate n false) f) ∧ mg c = some (.ref C) ∧ Mk K C fI ∧ Binds K fd ps []
/-- the class c, whose instances have the attributes fs of their own -/
structure HasC (K : PySem.W.Frag) (mg : Str → Option Value) (c : Str) (fs : List Str) : Prop where
  ex : ∃ C, mg c = some (.ref C) ∧ Cls K C ∧ ∀ f ∈ fs, NoAttr K C f
section
variable {K : PySem.W.Frag} {mg : Str → Option Value} {H F : Hp}
theorem DRs.evR {Hx : Hp} : ∀ {vs : List V} {ds : List D}, DRs K mg F vs ds → EvR K mg Hx F (vs.map some) (ds.map fun d => some (.fz d)) []
  | _, _, .nil => .nil
  | _, _, .cons h r => .cons (fp := []) (fps := []) (.so (.fz h)) (DRs.evR r) fun _ z => nomatch z
theorem DRs.len : ∀ {vs : List V} {ds : List D}, DRs K mg F vs ds → vs.length = ds.length
  | _, _, .nil => rfl
  | _, _, .cons _ r => congrArg (· + 1) (DRs.len r)
theorem OTRf.put : ∀ {vs : List (Str × V)} {ts : List (Str × OT)} {fp g : List Addr} {v : V} {t : OT} (f : Str), OTRf K mg H F vs ts fp → OTR K mg H F v t g → (∀ a ∈ g, a ∉ fp) → ∃ fp', OTRf K mg H F (putF f v vs) (putA f t ts) fp' ∧ ∀ a ∈ fp', a ∈ g ∨ a ∈ fp
  | _, _, _, g, v, t, f, .nil, o, _ => ⟨g ++ [], .cons o .nil (fun _ _ z => nomatch z), fun a ha => .inl (by simpa using ha)⟩
  | _, _, _, g, v, t, f, .cons (f := f') (fp := g1) (fps := gs) o1 r n, o, d => by
    by_cases e : f' = f
    · subst e
      refine ⟨g ++ gs, ?_, fun a ha => (List.mem_append.mp ha).imp id fun z => List.mem_append_right _ z⟩
      simp only [putF, putA, if_pos rfl]
      exact .cons o r fun a ha q => d a ha (List.mem_append_right _ q)
    · obtain ⟨fp', h1, h2⟩ := OTRf.put f r o fun a ha q => d a ha (List.mem_append_right _ q)
      refine ⟨g1 ++ fp', ?_, fun a ha => (List.mem_append.mp ha).elim (fun z => .inr (List.mem_append_left _ z)) fun z => (h2 a z).imp id fun z => List.mem_append_right _ z⟩
      simp only [putF, putA, if_neg e]
      exact .cons o1 h1 fun a ha q => (h2 a q).elim (fun z => d a z (List.mem_append_left _ ha)) fun z => n a ha z
theorem OTRf.len : ∀ {vs : List (Str × V)} {ts : List (Str × OT)} {fp : List Addr}, OTRf K mg H F vs ts fp → vs.length = ts.length
  | _, _, _, .nil => rfl
  | _, _, _, .cons _ r _ => congrArg (· + 1) (OTRf.len r)
theorem DRf.lookup : ∀ {vs : List (Str × V)} {ds : List (Str × D)} {f : Str} {d : D}, DRf K mg F vs ds → ds.lookup f = some d → ∃ v, vs.lookup f = some v ∧ DR K mg F v d
  | _, _, _, _, .nil, h => nomatch h
  | _, _, f, d, .cons (f := f') (v := v) h r, e => by
    rw [List.lookup_cons] at e ⊢
    cases z : f == f' with
    | true => rw [z] at e; cases e; exact ⟨v, rfl, h⟩
    | false => rw [z] at e; exact DRf.lookup r e
end
theorem views_len (l : List OT) : (OT.views l).length = l.length := by
  induction l with
  | nil => rfl
  | cons a l ih => exact congrArg (· + 1) ih
theorem evs_len : ∀ {xs : List IE} {en e1 : Ev} {ts : List OT}, evs xs en = .ok ts e1 → ts.length = xs.length := fun {xs} => by
  induction xs with
  | nil => intro en e1 ts h; cases h; rfl
  | cons x r ih =>
    intro en e1 ts h
    have h : ((sem x).1 en).bind (fun t e2 => (evs r e2).bind fun ts e3 => .ok (t :: ts) e3) = .ok ts e1 := h
    cases h1 : (sem x).1 en with
    | bad => rw [h1] at h; cases h
    | exn z e2 => rw [h1] at h; cases h
    | ok t e2 =>
      rw [h1] at h
      have h : (evs r e2).bind (fun ts e3 => .ok (t :: ts) e3) = .ok ts e1 := h
      cases h2 : evs r e2 with
      | bad => rw [h2] at h; cases h
      | exn z e3 => rw [h2] at h; cases h
      | ok us e3 =>
        rw [h2] at h
        cases h
        exact congrArg (· + 1) (ih h2)
section
variable {X : Cx} {W : WX} {k : Nat} {P : Nat → Bool} {pos p p2 apos pos' : Pos} {a b c e o value : Expr} {es rest : List Expr} {xa xb xc x : IE} {xs : List IE}
theorem mk_end {x : Str} {C : Addr} {f : Fn} {n : Nat} {σ : L2.St} {H H1 F F1 : Hp} {fp fpe fpv : List Addr} {vs : List V} {ts : List OT} {e1 : Ev} {Q : VK} (hC : X.mg x = some (.ref C)) (hn : ts.length = n) (p : VsPost X.K X.mg H F fp σ e1 vs ts H1 F1 fpe fpv)
    (q : WP X.K X.mg W σ H F fp (mkC x f (OT.views ts) e1) (FinV X.K X.mg H F fp σ Q)) (y dx : Addr) (hy : H1 y = none) (hdx : H1 dx = none) (hne : dx ≠ y) :
    spF X.K X.mg (true :: List.replicate n false) f (.ref y :: vs) (upd (upd H1 dx (.own y)) y (.ins C dx [])) (fun v H2 => v = .non ∧ Q (.ref y) H2) (WE W σ) := by
  obtain ⟨q1, q2, q3⟩ := p.frz
  generalize hFz : frzF F1 H1 fpv = Fz at q1 q2 q3
  have hy2 : upd H1 dx (.own y) y = none := by rw [upd_ne (Ne.symm hne)]; exact hy
  have sA : Stp H1 Fz fpe (upd (upd H1 dx (.own y)) y (.ins C dx [])) Fz (y :: fpe) := ((Stp.newO hdx).sub fun a ha => List.mem_cons_of_mem _ ha : Stp H1 Fz fpe (upd H1 dx (.own y)) Fz fpe).trans (Stp.newO hy2)
  have le2 : Same Fz (upd (upd H1 dx (.own y)) y (.ins C dx [])) := same_new (same_new q2.le hdx) hy2
  have kp : ∀ a o, H1 a = some o → upd (upd H1 dx (.own y)) y (.ins C dx []) a = some o := fun a o h => by
    rw [upd_ne (ne_of_none h hy), upd_ne (ne_of_none h hdx)]; exact h
  have env2 : EvR X.K X.mg (upd (upd H1 dx (.own y)) y (.ins C dx [])) Fz σ e1 fpe := q2.env.keep (Same.refl _) fun a _ o h => kp a o h
  have yfpe : y ∉ fpe := fun z => by
    obtain ⟨o, h⟩ := q2.env.there y z
    rw [hy] at h; cases h
  have Fy : Fz y = none := Same.free q2.le hy
  have lts : ∀ l : List OT, (OT.views l).length = l.length := fun l => by
    induction l with
    | nil => rfl
    | cons a l ih => exact congrArg (· + 1) ih
  have nd : ∀ a ∈ fpe, a ∉ [y] ++ ([] : List Addr) := fun a ha z => yfpe (by
    have : a = y := by simpa using z
    rw [← this]; exact ha)
  refine ⟨by simp only [List.length_cons, List.length_replicate]; rw [q3.len, lts, hn], Fz, _, [y] ++ [], le2, .cons (fp := [y]) (fps := []) (.so (.ins upd_same hC .nil (fun z => nomatch z))) q3.evR (fun _ _ z => nomatch z), fun a ha => ?_, ?_⟩
  · have : a = y := by simpa using ha
    rw [this]; exact Fy
  unfold mkC at q
  cases hf : f (some (.ins x []) :: (OT.views ts).map fun d => some (.fz d)) with
  | bad => rw [hf] at q; exact q.elim
  | exn z outs =>
    rw [hf] at q
    intro cls d H' F' fpo st le' eo ow ex
    have st2 := st.frame (gp := fpe)
    obtain ⟨k1, k2, k3⟩ := st.held (gp := fpe) env2.there nd q2.own
    exact q cls d H' F' fpe ((q1.trans (sA.trans (by simpa using st2))).sub fun a ha => List.mem_append_right _ ha) ⟨le', env2.keep st.fz k1, k2⟩ ex
  | ok r outs =>
    rw [hf] at q
    intro v H' F' fpo fpv' st le' eo ov dis owo owv
    cases r with
    | lst ts => exact q.elim
    | dic ts => exact q.elim
    | din ts => exact q.elim
    | ins c ts => exact q.elim
    | fz d =>
      cases d <;> first | exact q.elim | skip
      cases outs with
      | nil => exact q.elim
      | cons o1 outs =>
        cases o1 with
        | none => exact q.elim
        | some o1 =>
          cases ov with
          | fz dv =>
            cases dv
            refine ⟨rfl, ?_⟩
            cases eo with
            | cons sl er dd =>
              rename_i g gs
              cases sl with
              | so oo =>
                have st2 := st.frame (gp := fpe)
                obtain ⟨k1, k2, k3⟩ := st.held (gp := fpe) env2.there nd q2.own
                refine q (.ref y) H' F' fpe g ⟨(q1.trans (sA.trans (by simpa using st2))).sub fun a ha => ?_, ⟨le', env2.keep st.fz k1, k2⟩, oo, fun a ha z => ?_, fun a ha => owo a (List.mem_append_left _ ha)⟩
                · rcases List.mem_append.mp ha with ha | ha <;> simp [ha]
                · exact k3 a z (List.mem_append_right _ (List.mem_append_left _ ha))
/-- C(..) -/
theorem e_mk {x : Str} {f : Fn} {n j : Nat} (c : Cq X W k) (M : HasMk X.prog X.w X.K X.mg X.base j x n f) (ha : JL X W xs (e :: es)) (hk : decide (j + 1 ≤ k) = true := by rfl) (hl : xs.length = n := by rfl) (hg : Gl X x := by rfl) (hdb : (x == ("__debug__" : Str)) = false := by decide)
    (he : starEach (e :: es) X.env = (false, eval e X.env) :: starEach es X.env := by rfl) (hpl : (backTo pos (starEach es X.env)).any (·.1) = false := by rfl) : JE X W (.mk x f xs) (.Call (.Name x p) (e :: es) [] pos) := by
  obtain ⟨C, fI, fd, ps, Fk, hC, Mk, hb⟩ := M.ex
  refine PE.imp (pe_makeS (E := WE W) Mk Fk (c.room.mono (of_decide_eq_true hk)) hg hC hb (fun σ => passAt c.tk σ) ha hdb he hpl) fun σ H Q q => ?_
  obtain ⟨F, en, fp, ss, q⟩ := q
  have q : WP X.K X.mg W σ H F fp ((evs xs en).bind fun ts e1 => mkC x f (OT.views ts) e1) (FinV X.K X.mg H F fp σ Q) := q
  refine ⟨F, en, fp, ss, ?_⟩
  cases hm : evs xs en with
  | bad => rw [hm] at q; exact q
  | exn z e1 => rw [hm] at q; exact q
  | ok ts e1 =>
    rw [hm] at q
    intro vs H1 F1 fpe fpv p y dx hy hdx hne
    have hn : ts.length = n := by rw [evs_len hm, hl]
    exact mk_end hC hn p q y dx hy hdx hne
theorem e_mk0 {x : Str} {f : Fn} {j : Nat} (c : Cq X W k) (M : HasMk X.prog X.w X.K X.mg X.base j x 0 f) (hk : decide (j + 1 ≤ k) = true := by rfl) (hg : Gl X x := by rfl) (hdb : (x == ("__debug__" : Str)) = false := by decide) :
    JE X W (.mk x f []) (.Call (.Name x p) [] [] pos) := by
  obtain ⟨C, fI, fd, ps, Fk, hC, Mk, hb⟩ := M.ex
  refine PE.imp (pe_makeS0 (E := WE W) Mk Fk (c.room.mono (of_decide_eq_true hk)) hg hC hb (fun σ => passAt c.tk σ) hdb) fun σ H Q q => ?_
  obtain ⟨F, en, fp, ss, q⟩ := q
  have q : WP X.K X.mg W σ H F fp (mkC x f (OT.views []) en) (FinV X.K X.mg H F fp σ Q) := q
  exact fun y dx hy hdx hne => mk_end (ts := []) (vs := []) hC rfl ⟨Stp.refl, ss, .nil, nm, nm⟩ q y dx hy hdx hne
/-- o.f -/
theorem e_att {cs : List Str} {f : Str} (h : ∀ c ∈ cs, HasC X.K X.mg c [f]) (ho : JE X W x o) (hb : attributeBase o f X.env (eval o X.env) = eval o X.env := by rfl) : JE X W (.att x cs f) (.Attribute o f pos) := by
  refine PE.imp (pe_fld ho hb) fun σ H Q q => ?_
  obtain ⟨F, en, fp, ss, q⟩ := q
  have q : WP X.K X.mg W σ H F fp (((sem x).1 en).bind fun t e1 => (M.lift (attD t.view cs f) e1).bind fun d e2 => .ok (.fz d) e2) (FinV X.K X.mg H F fp σ Q) := q
  refine ⟨F, en, fp, ss, ?_⟩
  cases hm : (sem x).1 en with
  | bad => rw [hm] at q; exact q
  | exn z e1 => rw [hm] at q; exact q
  | ok t e1 =>
    rw [hm] at q
    intro v H1 F1 fpe fpv p
    obtain ⟨q1, q2, q3⟩ := p.frz
    have q : WP X.K X.mg W σ H F fp ((M.lift (attD t.view cs f) e1).bind fun d e2 => .ok (.fz d) e2) (FinV X.K X.mg H F fp σ Q) := q
    cases hv : attD t.view cs f with
    | none => rw [hv] at q; exact q.elim
    | some d =>
      rw [hv] at q
      cases ht : t.view <;> rw [ht] at hv q3 <;> first | (cases hv; done) | skip
      rename_i c ds
      have hv : (if c ∈ cs then ds.lookup f else none) = some d := hv
      by_cases hc : c ∈ cs
      · rw [if_pos hc] at hv
        cases q3 with
        | ins h1 h2 h3 =>
          obtain ⟨v2, l2, r2⟩ := DRf.lookup h3 hv
          obtain ⟨C, hC, cl, no⟩ := (h c hc).ex
          have hC2 := hC.symm.trans h2
          cases hC2
          exact ⟨_, _, _, _, v2, rfl, q2.le _ _ h1, cl, no f (List.mem_singleton.mpr rfl), l2, q v2 H1 _ fpe [] ⟨q1, q2, .fz r2, nm, nm⟩⟩
      · rw [if_neg hc] at hv; cases hv
/-- self.f = e -/
theorem s_sta {cn f : Str} (j : Nat) {n : Str} (h : HasC X.K X.mg cn [f]) (hv : JE X W x value) (hP : True := by trivial) (hN : X.N[j]? = some n := by rfl) (hvi : Vis X.env.scope n := by first | exact Or.inl rfl | exact Or.inr (Or.inl rfl) | exact Or.inr (Or.inr rfl)) (hd : (n == ("__debug__" : Str)) = false := by decide) (hcd : (n == ("__classdict__" : Str)) = false := by decide)
    (hs : swapsWith value (some (.Attribute (.Name n p) f pos')) pos.line X.env = pure false := by rfl) : JS X W P (.sta j cn f x) (.Assign [.Attribute (.Name n p) f pos'] value pos) := by
  refine PS.imp (ps_fld (pe_var hN hvi hd hcd) hv hs) fun D σ H q => ?_
  obtain ⟨F, en, fp, ss, q⟩ := q
  have q : WS X.K X.mg W P D H F fp σ (((sem x).1 en).st fun t e1 => ofO (updAt j [] (staO cn f t) e1)) := q
  refine tD_st Stp.refl Pr.refl ss q fun v t H1 F1 fpe fpv e1 p h1 => ?_
  cases hu : updAt j [] (staO cn f t) e1 with
  | none => rw [hu] at h1; exact h1.elim
  | some e2 =>
    rw [hu] at h1
    obtain ⟨t0, t1, hj, hst, rfl⟩ := updAt_nil hu
    cases t0 <;> first | (cases hst; done) | skip
    rename_i c0 fs0
    have hst : (if c0 = cn ∧ fs0.length < 1000 then some (OT.ins cn (putA f t fs0)) else none) = some t1 := hst
    by_cases hz : c0 = cn ∧ fs0.length < 1000
    · rw [if_pos hz] at hst
      cases hst
      obtain ⟨rfl, hlen⟩ := hz
      obtain ⟨v0, g, rest, k1, k2, k3, k4, k5⟩ := p.ss.env.take hj
      obtain ⟨C, hC, cl, no⟩ := h.ex
      cases k2 with
      | ins m1 m2 m3 m4 =>
        rename_i a C2 dx vs0 fp0
        have hC2 := hC.symm.trans m2
        cases hC2
        refine ⟨_, k1, a, C, dx, vs0, rfl, m1, cl, no f (List.mem_singleton.mpr rfl), by rw [m3.len]; exact hlen, ?_⟩
        have aF : F1 a = none := p.ss.own a ((k4 a).mpr (.inl List.mem_cons_self))
        have dis : ∀ b ∈ fpv, b ∉ fp0 := fun b hb z => p.dis b hb ((k4 b).mpr (.inl (List.mem_cons_of_mem _ z)))
        obtain ⟨fp', n1, n2⟩ := OTRf.put f m3 p.val dis
        have av : a ∉ fpv := fun z => p.dis a z ((k4 a).mpr (.inl List.mem_cons_self))
        have ar : a ∉ rest := k5 a List.mem_cons_self
        have ku : ∀ (S : List Addr), a ∉ S → ∀ b ∈ S, ∀ o, H1 b = some o → upd H1 a (.ins C dx (putF f v vs0)) b = some o := fun S hS b hb o q => by
          rw [upd_ne (fun z => hS (by rw [← z]; exact hb))]; exact q
        have afp' : a ∉ fp' := fun z => (n2 a z).elim av m4
        have r2 : OTR X.K X.mg (upd H1 a (.ins C dx (putF f v vs0))) F1 (.ref a) (.ins c0 (putA f t fs0)) (a :: fp') := .ins upd_same hC (n1.keep (Same.refl _) (ku fp' afp')) afp'
        obtain ⟨fp2, s1, s2⟩ := EvR.put (k3.keep (Same.refl _) (ku rest ar)) k1 r2 fun b hb z => by
          rcases List.mem_cons.mp hb with rfl | hb
          · exact ar z
          · rcases n2 b hb with y | y
            · exact p.dis b y ((k4 b).mpr (.inr z))
            · exact k5 b (List.mem_cons_of_mem _ y) z
        rw [List.set_set] at s1
        have sub : ∀ b ∈ fp2, b ∈ fpv ++ fpe := fun b hb => by
          rcases s2 b hb with y | y
          · rcases List.mem_cons.mp y with rfl | y
            · exact List.mem_append_right _ ((k4 _).mpr (.inl List.mem_cons_self))
            · rcases n2 b y with y | y
              · exact List.mem_append_left _ y
              · exact List.mem_append_right _ ((k4 b).mpr (.inl (List.mem_cons_of_mem _ y)))
          · exact List.mem_append_right _ ((k4 b).mpr (.inr y))
        refine h1 σ _ F1 fp2 ((p.st.trans (Stp.wr (List.mem_append_right _ ((k4 a).mpr (.inl List.mem_cons_self))))).sub sub) ⟨fun b o q => ?_, s1, fun b hb => ?_⟩ Pr.refl
        · rw [upd_ne (fun z => by rw [z, aF] at q; cases q)]; exact p.ss.le b o q
        · rcases List.mem_append.mp (sub b hb) with y | y
          · exact p.own b y
          · exact p.ss.own b y
    · rw [if_neg hz] at hst; cases hst
end
end Rx
end

section
/-! Rx, part 17: chains, calls of a name that holds a def, isinstance with an own class. -/
namespace Rx
open PySem PySem.Spec PyProof.Rows L2
variable [Prw]
section
variable {X : Cx} {W : WX} {k : Nat} {P : Nat → Bool} {pos p p2 : Pos} {a b c e : Expr} {es rest : List Expr} {xa xb xc x : IE} {xs : List IE}
theorem chn_use {o1 o2 : CmpOp} {g1 g2 : D → D → Option Bool} {σ : L2.St} {H : Hp} {Q : VK} (h : tDX X W (sem (.chn o1 o2 g1 g2 xa xb xc)).1 σ H Q) : tChain (R2D X.K X.mg (bl2 g1)) (R2D X.K X.mg (bl2 g2)) (tOX X W xa (sem xa).1) (tOX X W xb (sem xb).1) (tOX X W xc (sem xc).1) σ H Q := by
  obtain ⟨F, en, fp, ss, h⟩ := h
  refine op2_use (f := fun x y rb => M.bind (M.lift (g1 x y)) fun k => (match k with
    | true => M.bind (opd xc (sem xc).1) fun rc => M.bind (fin xb rb) fun y => M.bind (fin xc rc) fun z => blM (g2 y z)
    | false => M.pure (.fz (.bl false)))) Stp.refl ss h fun v w H2 F2 fp2 e2 x y rb s2 ss2 px py ob h2 => ?_
  obtain ⟨k1, hk, h2⟩ := lift_use h2
  refine ⟨F2, x, y, .fz (.bl k1), ss2.le, px, py, by unfold bl2; rw [hk]; rfl, fun z H3 F3 fpv st le3 ov _ => ?_⟩
  cases ov with
  | fz dz =>
    cases dz
    obtain ⟨q1, q2, q3⟩ := st.held (gp := fp2) ss2.env.there (fun a _ q => nomatch q) ss2.own
    have ss3 : SS X.K X.mg H3 F3 σ e2 fp2 := ⟨le3, ss2.env.keep st.fz q1, q2⟩
    have s3 : Stp H F fp H3 F3 fp2 := s2.trans (by simpa using st.frame (gp := fp2))
    refine ⟨k1, rfl, ?_⟩
    cases k1 with
    | false =>
      rw [if_neg Bool.false_ne_true]
      exact finP_of ss3 (FinV.step s3 h2) _ H3 F3 [] Stp.refl le3 (.fz (.bl _)) fun _ z => nomatch z
    | true =>
      rw [if_pos rfl]
      have h2 : WP X.K X.mg W σ H F fp ((opd xc (sem xc).1 e2).bind fun rc e4 => (fin xb rb e4).bind fun y e5 => (fin xc rc e5).bind fun z e6 => blM (g2 y z) e6) (FinV X.K X.mg H F fp σ Q) := h2
      refine opd_use s3 ss3 h2 fun v3 H4 F4 fp4 rc e4 s4 sf4 ss4 oc h4 => ?_
      obtain ⟨y', py', h5⟩ := fin_use ss4 ((ob.mono st.fz).mono sf4) h4
      obtain ⟨z, pz, h6⟩ := fin_use ss4 oc h5
      obtain ⟨k2, hk2, hq⟩ := cmp_end s4 ss4 h6
      exact ⟨F4, y', z, _, ss4.le, py', pz, by unfold bl2; rw [hk2]; rfl, hq⟩
theorem e_chn {o1 o2 : CmpOp} {g1 g2 : D → D → Option Bool} (ho : OpD X (compareOp o1) (bl2 g1)) (ho' : OpD X (compareOp o2) (bl2 g2)) (ha : JO X W xa a) (hb : JO X W xb b) (hc : JO X W xc c) (hm : lastMarks [o1, o2] [b, c] = false := by with_unfolding_all rfl) :
    JE X W (.chn o1 o2 g1 g2 xa xb xc) (.Compare a [o1, o2] [b, c] pos) := PE.imp (pe_chain ho ho' ha hb hc hm) fun σ H Q h => chn_use h
structure HasI (K : PySem.W.Frag) (mg : Str → Option Value) (c : Str) : Prop where
  ex : ∃ C, mg c = some (.ref C) ∧ C8.InsC K C
theorem PR.insI {H F : Hp} {K : PySem.W.Frag} {mg : Str → Option Value} {v : V} {c : Str} {ds : List (Str × D)} (p : PR K mg H F v (.ins c ds)) : ∃ a C dx fs, v = .ref a ∧ F a = some (.ins C dx fs) ∧ mg c = some (.ref C) := by
  cases p with
  | fz d =>
    cases d with
    | ins h m r => exact ⟨_, _, _, _, rfl, h, m⟩
theorem e_isC {cn m : Str} (h0 : X.mg "isinstance" = none) (h : HasI X.K X.mg cn) (ha : JO X W x e) (hg : Gl X "isinstance" := by rfl) (hgT : Gl X cn := by rfl) (hdT : (cn == ("__debug__" : Str)) = false := by decide)
    (he : starEach [e, .Name cn p2] X.env = (false, eval e X.env) :: starEach [.Name cn p2] X.env := by rfl) (he2 : starEach [.Name cn p2] X.env = [(false, eval (.Name cn p2) X.env)] := by rfl) (hpl : (backTo pos (starEach [.Name cn p2] X.env)).any (·.1) = false := by rfl) :
    JE X W (.me m (isiC cn) x []) (.Call (.Name "isinstance" p) [e, .Name cn p2] [] pos) := by
  obtain ⟨C, hC, iC⟩ := h.ex
  refine PE.imp (pe_callB (C8.call_isC iC) hg h0 rfl (pa_cons ha (pa_cons (pe_glob hgT hC (v := .ref C) rfl hdT) pa_nil he2) he) (by decide) (by decide) he hpl) fun σ H Q h => ?_
  obtain ⟨F, en, fp, ss, h⟩ := h
  refine opd_use Stp.refl ss h fun v H1 F1 fp1 r e1 s1 _ ss1 o1 h1 => ?_
  obtain ⟨d, pd, h2⟩ := fin_use ss1 o1 h1
  obtain ⟨t, ht, hq⟩ := lift_end s1 ss1 h2
  cases d <;> first | (cases ht; done) | skip
  rename_i c' ds
  have ht : (if c' = cn then some (OT.fz (.bl true)) else none) = some t := ht
  by_cases hc : c' = cn
  · rw [if_pos hc] at ht
    cases ht
    subst hc
    obtain ⟨a, C2, dx, fs, rfl, hF, m2⟩ := pd.insI
    have := hC.symm.trans m2
    cases this
    exact ⟨a, dx, fs, rfl, ss1.le _ _ hF, hq.bl ss1.le⟩
  · rw [if_neg hc] at ht; cases ht
/-- a call of a name that holds one of several defs -/
def tCallV (K : PySem.W.Frag) (mg : Str → Option Value) (i n : Nat) (tbl : List (Str × Fn)) (W : WX) (t : TA) : TE := fun σ H Q => ∃ x f fa, (x, f) ∈ tbl ∧ mg x = some (.ref fa) ∧ σ[i]? = some (some (.ref fa)) ∧ t σ H fun vs H1 => spF K mg (List.replicate n false) f vs H1 Q (WE W σ)
theorem pe_callV {i n j : Nat} {tbl : List (Str × Fn)} {x : Str} {t : TA} (ht : ∀ q ∈ tbl, HasFn X.prog X.w X.K X.mg X.base j q.1 (List.replicate n false) q.2) (hr : Room j X.A) (tk : Takes X W) (hN : X.N[i]? = some x) (hv : Vis X.env.scope x) (ha : PA X (e :: es) t)
    (hdb : (x == ("__debug__" : Str)) = false) (hcd : (x == ("__classdict__" : Str)) = false)
    (he : starEach (e :: es) X.env = (false, eval e X.env) :: starEach es X.env) (hpl : (backTo pos (starEach es X.env)).any (·.1) = false) : PE X (.Call (.Name x p) (e :: es) [] pos) (tCallV X.K X.mg i n tbl W t) := by
  refine ⟨fun pins s σ H Q I h => ?_⟩
  obtain ⟨y, f, fa, hm, hy, hs, h⟩ := h
  obtain ⟨fa2, fd, ps, Fk, hm2, hkp, hb⟩ := (ht (y, f) hm).ex
  have := hy.symm.trans hm2
  cases this
  refine wpAny_Call_Name_kw (thn ((pe_var (pos := p) hN hv hdb hcd).run pins s σ H (fun v H1 => v = .ref fa ∧ H1 = H) I ⟨.ref fa, hs, rfl, rfl⟩) fun u s1 ⟨v, H1, I1, r1, q1⟩ => ?_)
  obtain ⟨rfl, rfl⟩ := q1
  cases r1
  refine PySem.W.callWith_K (h₀ := X.base) I.ok.mod.kin hkp (thn (ha.run pos pins s1 σ _ _ I1 h) fun us s2 ⟨vs, H2, I2, r, q⟩ => ⟨I2.kIn, ?_⟩) he hpl
  exact run_fnS (E := WE W) Fk hr hb (passAt tk σ) I2 r q
theorem e_cv (i : Nat) {n j : Nat} {tbl : List (Str × Fn)} {x : Str} (c : Cq X W k) (ht : ∀ q ∈ tbl, HasFn X.prog X.w X.K X.mg X.base j q.1 (List.replicate n false) q.2) (ha : JL X W xs (e :: es)) (hk : decide (j ≤ k) = true := by rfl) (hl : xs.length = n := by rfl)
    (hN : X.N[i]? = some x := by rfl) (hv : Vis X.env.scope x := by first | exact Or.inl rfl | exact Or.inr (Or.inl rfl) | exact Or.inr (Or.inr rfl)) (hdb : (x == ("__debug__" : Str)) = false := by decide) (hcd : (x == ("__classdict__" : Str)) = false := by decide)
    (he : starEach (e :: es) X.env = (false, eval e X.env) :: starEach es X.env := by rfl) (hpl : (backTo pos (starEach es X.env)).any (·.1) = false := by rfl) : JE X W (.cv i tbl xs) (.Call (.Name x p) (e :: es) [] pos) := by
  refine PE.imp (pe_callV (W := W) (i := i) ht (c.room.mono (of_decide_eq_true hk)) c.tk hN hv ha hdb hcd he hpl) fun σ H Q q => ?_
  obtain ⟨F, en, fp, ss, q⟩ := q
  have q : WP X.K X.mg W σ H F fp ((M.get i en).bind fun t e0 => (match t with
    | .fz (.fn x) => (match tbl.lookup x with
      | some f => M.bind (evs xs) fun ts => callC f (OT.views ts)
      | none => fun _ => .bad)
    | _ => fun _ => .bad) e0) (FinV X.K X.mg H F fp σ Q) := q
  cases hi : en.at i with
  | none => simp only [M.get, hi] at q; exact q.elim
  | some t0 =>
    simp only [M.get, hi, R.bind] at q
    obtain ⟨v, g, h1, h2, h3⟩ := ss.env.at hi
    cases t0 with
    | lst ts => exact q.elim
    | dic ts => exact q.elim
    | din ts => exact q.elim
    | ins c0 ts => exact q.elim
    | fz d =>
      cases d <;> first | exact q.elim | skip
      rename_i y
      cases hl2 : tbl.lookup y with
      | none => simp only [hl2] at q; exact q.elim
      | some f =>
        simp only [hl2] at q
        have q : WP X.K X.mg W σ H F fp ((evs xs en).bind fun ts e1 => callC f (OT.views ts) e1) (FinV X.K X.mg H F fp σ Q) := q
        cases h2 with
        | fz dv =>
          cases dv with
          | fn hm =>
            rename_i fa
            have hmem : (y, f) ∈ tbl := by
              have : ∀ l : List (Str × Fn), l.lookup y = some f → (y, f) ∈ l := fun l => by
                induction l with
                | nil => intro h; cases h
                | cons p l ih =>
                  intro h
                  rw [List.lookup_cons] at h
                  cases z : y == p.1 with
                  | true =>
                    rw [z] at h
                    have e1 : y = p.1 := by simpa using z
                    cases h
                    rw [e1]; exact List.mem_cons_self
                  | false => rw [z] at h; exact List.mem_cons_of_mem _ (ih h)
              exact this tbl hl2
            refine ⟨y, f, fa, hmem, hm, h1, F, en, fp, ss, ?_⟩
            cases hm2 : evs xs en with
            | bad => rw [hm2] at q; exact q
            | exn z e1 => rw [hm2] at q; exact q
            | ok ts e1 =>
              rw [hm2] at q
              intro vs H1 F1 fpe fpv pp
              obtain ⟨q1, q2, q3⟩ := pp.frz
              have q : WP X.K X.mg W σ H F fp (callC f (OT.views ts) e1) (FinV X.K X.mg H F fp σ Q) := q
              have hn : ts.length = n := by rw [evs_len hm2, hl]
              have lts : (OT.views ts).length = ts.length := views_len ts
              refine ⟨by rw [List.length_replicate, q3.len, lts, hn], _, _, [], q2.le, q3.evR, (fun _ z => nomatch z), ?_⟩
              unfold callC at q
              cases hf : f ((OT.views ts).map fun d => some (.fz d)) with
              | bad => rw [hf] at q; exact q.elim
              | exn z outs =>
                rw [hf] at q
                intro cls d H' F' fpo st le' eo ow ex
                obtain ⟨k1, k2, k3⟩ := st.held (gp := fpe) q2.env.there (fun a _ z => nomatch z) q2.own
                exact q cls d H' F' fpe ((q1.trans (st.frame (gp := fpe))).sub fun a ha => List.mem_append_right _ ha) ⟨le', q2.env.keep st.fz k1, k2⟩ ex
              | ok r outs =>
                rw [hf] at q
                intro v H' F' fpo fpv' st le' eo ov dis owo owv
                obtain ⟨k1, k2, k3⟩ := st.held (gp := fpe) q2.env.there (fun a _ z => nomatch z) q2.own
                exact q v H' F' fpe fpv' ⟨(q1.trans (st.frame (gp := fpe))).sub fun a ha => (List.mem_append.mp ha).elim (fun z => List.mem_append_left _ (List.mem_append_left _ z)) fun z => List.mem_append_right _ z, ⟨le', q2.env.keep st.fz k1, k2⟩, ov, fun a ha z => k3 a z (List.mem_append_left _ ha), owv⟩
end
end Rx
end

section
/-! Rx, part 18: dict comprehensions. -/
namespace Rx
open PySem PySem.Spec PyProof.Rows L2
variable [Prw]
section
variable {X : Cx} {W : WX} {pos : Pos} {elt iter tg : Expr} {ifs : List Expr} {scope : Scope}
theorem yes_ite {A B : Prop} (h : A) : if true = true then A else B := by
  rw [if_pos rfl]; exact h
theorem dc_coreD {K : PySem.W.Frag} {mg : Str → Option Value} {tgt : TGt} {mk mv : M OT} {own : List Nat} {σ : L2.St} {H F H1 F1 : Hp} {fp fp1 : List Addr} {e1 : Ev} {J : It} {xs : List D} {Q : VK} (ht : (tgt.has.all fun j => own.contains j) = true)
    (wk : DWalk K mg J F1 xs) (s1 : Stp H F fp H1 F1 fp1) (ss1 : SS K mg H1 F1 σ e1 fp1) (h : WP K mg W σ H F fp (dcRun own tgt mk mv xs e1) (FinV K mg H F fp σ Q)) : tDc (fun _ H R => R J H) (gOf K tgt) tYes (tD K mg W0 mk) (tD K mg W0 mv) own σ H1 Q := by
  intro L hL
  have h : WP K mg W σ H F fp (dcRun own tgt mk mv xs e1) (FinV K mg H F fp σ Q) := h
  unfold dcRun at h
  cases hok : ownOk e1 own with
  | false => rw [hok] at h; exact h.elim
  | true =>
    rw [hok] at h
    have hnd := ownOk_nodup hok
    have hod := own_data hok ss1.env
    -- the invariant
    refine ⟨fun i m H2 => i ≤ xs.length ∧ m = xs.length - i ∧ ∃ F2 e2 fp2 vacc acc, Stp H1 F1 fp1 H2 F2 (L :: fp2) ∧ SS K mg H2 F2 (L2.wipe σ own) (wipeE e2 own) fp2 ∧ H2 L = some (.dK vacc) ∧ F2 L = none ∧ L ∉ fp2 ∧ DRk K mg F2 vacc acc ∧
      WP K mg W σ H F fp ((dcGo own tgt mk mv (xs.drop i) acc e2).bind fun acc e' => .ok (.dic acc) (restE e1 (wipeE e' own) own)) (FinV K mg H F fp σ Q), ?_, ?_⟩
    · obtain ⟨fp2, g1, g2⟩ := ss1.env.wipe own
      refine ⟨xs.length, Nat.zero_le _, rfl, F1, e1, fp2, [], [], ?_, ⟨same_new ss1.le hL, ?_, fun a ha => ss1.own a (g2 a ha)⟩, upd_same, Same.free ss1.le hL, fun z => ?_, .nil, h⟩
      · exact (Stp.newO hL).sub fun a ha => (List.mem_cons.mp ha).elim (fun z => by rw [z]; exact List.mem_cons_self) fun z => List.mem_cons_of_mem _ (g2 a z)
      · exact g1.keep (Same.refl _) fun a ha o q => by rw [upd_ne (ne_of_none q hL)]; exact q
      · obtain ⟨o, q⟩ := g1.there L z
        rw [hL] at q; cases q
    · rintro i m H2 ⟨hi, rfl, F2, e2, fp2, vacc, acc, s2, ss2, hLv, hLF, hLn, racc, h2⟩
      have wk2 : DWalk K mg J F2 xs := wk.mono s2.fz
      by_cases hlt : i < xs.length
      · refine .inr ⟨wk2.goes i H2 ss2.le hlt, ?_⟩
        have hd : xs.drop i = xs[i] :: xs.drop (i + 1) := List.drop_eq_getElem_cons hlt
        rw [hd] at h2
        refine ⟨fun H5 => ∃ F5 e5 fp5 vacc5 acc5, Stp H1 F1 fp1 H5 F5 (L :: fp5) ∧ SS K mg H5 F5 (L2.wipe σ own) (wipeE e5 own) fp5 ∧ H5 L = some (.dK vacc5) ∧ F5 L = none ∧ L ∉ fp5 ∧ DRk K mg F5 vacc5 acc5 ∧
          WP K mg W σ H F fp ((dcGo own tgt mk mv (xs.drop (i + 1)) acc5 e5).bind fun acc e' => .ok (.dic acc) (restE e1 (wipeE e' own) own)) (FinV K mg H F fp σ Q), ?_, ?_⟩
        · rintro H5 ⟨F5, e5, fp5, vacc5, acc5, k1, k2, k3, k4, k5, k6, k7⟩
          exact ⟨xs.length - (i + 1), by omega, hlt, rfl, F5, e5, fp5, vacc5, acc5, k1, k2, k3, k4, k5, k6, k7⟩
        · intro x H3 hy
          obtain ⟨d, F3, hd1, st3, le3, rd⟩ := wk2.yields i H2 x H3 F2 (Same.refl _) ss2.le hlt hy
          have hd2 : xs[i] = d := Option.some.inj ((List.getElem?_eq_getElem hlt).symm.trans hd1)
          rw [hd2] at h2
          -- the state behind the item
          obtain ⟨k1, k2, k3⟩ := st3.held ss2.env.there (fun a _ q => nomatch q) ss2.own
          have hL3 : H3 L = some (.dK vacc) := st3.ke L _ hLv fun z => nomatch z
          have hLF3 : F3 L = none := (st3.held (gp := [L]) (fun a ha => by
            have : a = L := by simpa using ha
            rw [this]; exact ⟨_, hLv⟩) (fun a _ q => nomatch q) (fun a ha => by
            have : a = L := by simpa using ha
            rw [this]; exact hLF)).2.1 L List.mem_cons_self
          have ss3 : SS K mg H3 F3 (L2.wipe σ own) (wipeE e2 own) fp2 := ⟨le3, ss2.env.keep st3.fz k1, k2⟩
          have s3 : Stp H1 F1 fp1 H3 F3 (L :: fp2) := s2.trans (by simpa using st3.frame (gp := L :: fp2))
          cases hb : bindT tgt d (wipeE e2 own) with
          | none =>
            have : dcGo own tgt mk mv (d :: xs.drop (i + 1)) acc e2 = .bad := by
              show (match bindT tgt d (wipeE e2 own) with | none => _ | some e1 => _) = _
              rw [hb]
            rw [this] at h2
            exact h2.elim
          | some e3 =>
            have eq : dcGo own tgt mk mv (d :: xs.drop (i + 1)) acc e2 = (noX (mk e3)).bind fun t e4 => (noX (mv e4)).bind fun u e5 => if isKey t.view = true ∧ acc.length < sizeMax then dcGo own tgt mk mv (xs.drop (i + 1)) (putD acc t.view u.view) e5 else .bad := by
              show (match bindT tgt d (wipeE e2 own) with | none => _ | some e1 => _) = _
              rw [hb]
            rw [eq] at h2
            refine bindT_ok (P := fun i => !own.contains i) tgt (by simpa using ht) rd hb ss3 fun σ3 fp3 ss4 sub3 pr3 len3 => ?_
            have hw : L2.wipe σ3 own = L2.wipe σ own := by
              rw [wipe_eq len3 pr3, wipe_wipe]
            refine ⟨hw, ?_⟩
            simp only [tYes, if_true]
            refine ⟨F3, e3, fp3, ss4, ?_⟩
            have hL4 : L ∉ fp3 := fun z => hLn (sub3 L z)
            -- the turn's end
            have fin : ∀ {H5 F5 : Hp} {fp5 : List Addr} {e5 : Ev} {vacc5 : List (Key × V)} {acc5 : List (D × D)}, Stp H1 F1 fp1 H5 F5 (L :: fp5) → SS K mg H5 F5 σ3 e5 fp5 → H5 L = some (.dK vacc5) → F5 L = none → L ∉ fp5 → DRk K mg F5 vacc5 acc5 →
                WP K mg W σ H F fp ((dcGo own tgt mk mv (xs.drop (i + 1)) acc5 e5).bind fun acc e' => .ok (.dic acc) (restE e1 (wipeE e' own) own)) (FinV K mg H F fp σ Q) →
                ∃ F5 e5 fp5 vacc5 acc5, Stp H1 F1 fp1 H5 F5 (L :: fp5) ∧ SS K mg H5 F5 (L2.wipe σ own) (wipeE e5 own) fp5 ∧ H5 L = some (.dK vacc5) ∧ F5 L = none ∧ L ∉ fp5 ∧ DRk K mg F5 vacc5 acc5 ∧
                  WP K mg W σ H F fp ((dcGo own tgt mk mv (xs.drop (i + 1)) acc5 e5).bind fun acc e' => .ok (.dic acc) (restE e1 (wipeE e' own) own)) (FinV K mg H F fp σ Q) := fun {H5 F5 fp5 e5 vacc5 acc5} g1 g2 g3 g4 g5 g6 g7 => by
              obtain ⟨fp6, w1, w2⟩ := g2.env.wipe own
              rw [hw] at w1
              exact ⟨F5, e5, fp6, vacc5, acc5, g1.sub fun a ha => (List.mem_cons.mp ha).elim (fun z => by rw [z]; exact List.mem_cons_self) fun z => List.mem_cons_of_mem _ (w2 a z), ⟨g2.le, w1, fun a ha => g2.own a (w2 a ha)⟩, g3, g4, fun z => g5 (w2 L z), g6, g7⟩
            have heldL : ∀ {Ha Fa Hb Fb : Hp} {fa fb : List Addr}, Stp Ha Fa fa Hb Fb fb → Ha L = some (.dK vacc) → Fa L = none → L ∉ fa → Hb L = some (.dK vacc) ∧ Fb L = none ∧ L ∉ fb := fun {Ha Fa Hb Fb fa fb} st a1 a2 a3 => by
              obtain ⟨b1, b2, b3⟩ := st.held (gp := [L]) (fun a ha => by
                have : a = L := by simpa using ha
                rw [this]; exact ⟨_, a1⟩) (fun a ha => by
                have : a = L := by simpa using ha
                rw [this]; exact a3) (fun a ha => by
                have : a = L := by simpa using ha
                rw [this]; exact a2)
              exact ⟨b1 L List.mem_cons_self _ a1, b2 L List.mem_cons_self, b3 L List.mem_cons_self⟩
            have s3' : Stp H1 F1 fp1 H3 F3 (L :: fp3) := s3.sub fun a ha => (List.mem_cons.mp ha).elim (fun z => by rw [z]; exact List.mem_cons_self) fun z => List.mem_cons_of_mem _ (sub3 a z)
            cases hmk : mk e3 with
            | bad => rw [hmk] at h2; exact h2.elim
            | exn x' e4 => rw [hmk] at h2; exact h2.elim
            | ok tk e4 =>
              rw [hmk] at h2
              intro y H4 F4 fp4 fpv4 p4
              obtain ⟨a1, a2, a3⟩ := p4.frz
              obtain ⟨c1, c2, c3⟩ := heldL a1 hL3 hLF3 hL4
              have s4 := s3'.trans (by simpa using a1.frameL (gp := [L]))
              refine ⟨_, e4, fp4, a2, ?_⟩
              have h2 : WP K mg W σ H F fp (((noX (mv e4)).bind fun u e5 => if isKey tk.view = true ∧ acc.length < sizeMax then dcGo own tgt mk mv (xs.drop (i + 1)) (putD acc tk.view u.view) e5 else .bad).bind fun acc e' => .ok (.dic acc) (restE e1 (wipeE e' own) own)) (FinV K mg H F fp σ Q) := h2
              cases hmv : mv e4 with
              | bad => rw [hmv] at h2; exact h2.elim
              | exn x' e5 => rw [hmv] at h2; exact h2.elim
              | ok tv e5 =>
                rw [hmv] at h2
                have h2 : WP K mg W σ H F fp ((if isKey tk.view = true ∧ acc.length < sizeMax then dcGo own tgt mk mv (xs.drop (i + 1)) (putD acc tk.view tv.view) e5 else .bad).bind fun acc e' => .ok (.dic acc) (restE e1 (wipeE e' own) own)) (FinV K mg H F fp σ Q) := h2
                by_cases hz : isKey tk.view = true ∧ acc.length < sizeMax
                · rw [if_pos hz] at h2
                  intro z H5 F5 fpe5 fpv5 p5
                  obtain ⟨q1, q2, q3⟩ := p5.frz
                  obtain ⟨d1, d2, d3⟩ := heldL q1 c1 c2 c3
                  have racc5 : DRk K mg (frzF F5 H5 fpv5) vacc acc := (((racc.mono st3.fz).mono a1.fz).mono q1.fz)
                  obtain ⟨kk, rfl, hkk, okk⟩ := key_of_DR a3 (by
                    have hz1 := hz.1
                    cases hv : tk.view <;> rw [hv] at hz1 <;> first | (cases hz1; done) | skip
                    · exact .inl ⟨_, rfl⟩
                    · exact .inr ⟨_, rfl⟩)
                  rw [hkk] at h2
                  have hlen : vacc.length < sizeLine := by rw [racc.length]; have := hz.2; rw [← sizeMax_eq]; exact this
                  refine ⟨vacc, kk, rfl, d1, hlen, ?_⟩
                  have hupd : ∀ a ∈ fpe5, ∀ o, H5 a = some o → upd H5 L (.dK (putK vacc kk z)) a = some o := fun a ha o q => by
                    rw [upd_ne (fun z => d3 (by rw [← z]; exact ha))]; exact q
                  refine fin (F5 := frzF F5 H5 fpv5) (fp5 := fpe5) (vacc5 := putK vacc kk z) (acc5 := putD acc (keyD kk) tv.view) ?_ ⟨fun a o q => ?_, q2.env.keep (Same.refl _) hupd, q2.own⟩ upd_same d2 d3 (putK_ok okk q3 racc5) h2
                  · have := s4.trans (by simpa using q1.frameL (gp := [L]))
                    exact this.trans (Stp.wr List.mem_cons_self)
                  · have : a ≠ L := fun z => by rw [z, d2] at q; cases q
                    rw [upd_ne this]
                    exact q2.le a o q
                · rw [if_neg hz] at h2; exact h2.elim
      · have ei : i = xs.length := by omega
        subst ei
        refine .inl ⟨wk2.stops H2 ss2.le, ?_⟩
        rw [List.drop_length] at h2
        have h2 : FinV K mg H F fp σ Q (.dic acc) (restE e1 (wipeE e2 own) own) := h2
        obtain ⟨fp3, r1, r2⟩ := rest_ok own hnd (fun j hj => (hod j hj).imp id fun ⟨d, v, a1, a2, a3⟩ => ⟨d, v, a1, a2, a3.mono s2.fz⟩) ss2.env
        refine h2 (.ref L) H2 F2 fp3 [L] ⟨(s1.trans s2).sub fun a ha => ?_, ⟨ss2.le, r1, fun a ha => ss2.own a (r2 a ha)⟩, (.dK hLv racc), fun a ha q => ?_, fun a ha => ?_⟩
        · exact (List.mem_append.mp ha).elim (fun z => by have : a = L := by simpa using z
                                                          rw [this]; exact List.mem_cons_self) fun z => List.mem_cons_of_mem _ (r2 a z)
        · have : a = L := by simpa using ha
          rw [this] at q
          exact hLn (r2 L q)
        · have : a = L := by simpa using ha
          rw [this]; exact hLF
theorem dc_use {K : PySem.W.Frag} {mg : Str → Option Value} {tgt : TGt} {mk mv : M OT} {own : List Nat} {mi : M (List D)} {σ : L2.St} {H : Hp} {Q : VK} (ht : (tgt.has.all fun j => own.contains j) = true)
    (h : tD K mg W (M.bind mi fun xs => dcRun own tgt mk mv xs) σ H Q) : tDc (tI K mg W mi) (gOf K tgt) tYes (tD K mg W0 mk) (tD K mg W0 mv) own σ H Q := by
  obtain ⟨F, e0, fp, ss, h⟩ := h
  have h : WP K mg W σ H F fp ((mi e0).bind fun xs e1 => dcRun own tgt mk mv xs e1) (FinV K mg H F fp σ Q) := h
  refine ⟨F, e0, fp, ss, ?_⟩
  cases hm : mi e0 with
  | bad => rw [hm] at h; exact h.elim
  | exn x e1 => rw [hm] at h; exact h
  | ok xs e1 =>
    rw [hm] at h
    intro J H1 F1 fp1 s1 ss1 wk
    exact dc_coreD ht wk s1 ss1 h

variable {k : Nat} {kx vx : Expr} {xk xv : IE}
theorem e_dc {own : List (Str × Nat)} {sc : Scope} {tgt : TGt} {it : ITK} {its : List IE} (c : Cq X W k) (hi : JI X W it its tg iter) (hg : ∀ (s : Shared) (H : Hp) (C : Addr) (cl : List (Str × Addr)) (fp : List Addr), JG (X.blk s H sc (compEnvC sc cl C X.env) fp) tgt tg)
    (hk : ∀ (s : Shared) (H : Hp) (C : Addr) (cl : List (Str × Addr)) (fp : List Addr), JE (X.blk s H sc (compEnvC sc cl C X.env) fp) W0 xk kx) (he : ∀ (s : Shared) (H : Hp) (C : Addr) (cl : List (Str × Addr)) (fp : List Addr), JE (X.blk s H sc (compEnvC sc cl C X.env) fp) W0 xv vx)
    (ok : blkC X.N X.env.scope sc own = true := by rfl) (hw : (tgt.has.all fun j => (own.map (·.2)).contains j) = true := by rfl) (hs : ∀ x, foldedSetIterable iter X.env x = pure x := by intro _; rfl) : JE X W (.dc tgt it its xk xv (own.map (·.2))) (.DictComp kx vx [⟨tg, iter, [], 0⟩] sc pos) := by
  refine PE.imp (pe_dc (g := gOf X.K tgt) (tt := tYes) (tk := tD X.K X.mg W0 (sem xk).1) (tv := tD X.K X.mg W0 (sem xv).1) c.calm c.nd hi (blkOk_by ok) hg (fun _ _ _ _ _ => pts_nil) hk he hs) fun σ H Q h => ?_
  exact dc_use hw (by
    obtain ⟨F, e, fp, ss, h⟩ := h
    refine ⟨F, e, fp, ss, ?_⟩
    have h : WP X.K X.mg W σ H F fp ((evs its e).bind fun ts e1 => (M.lift (itemsOf it (OT.views ts)) e1).bind fun xs e2 => dcRun (own.map (·.2)) tgt (sem xk).1 (sem xv).1 xs e2) (FinV X.K X.mg H F fp σ Q) := h
    show WP X.K X.mg W σ H F fp (((evs its e).bind fun ts e1 => (M.lift (itemsOf it (OT.views ts)) e1)).bind fun xs e2 => dcRun (own.map (·.2)) tgt (sem xk).1 (sem xv).1 xs e2) (FinV X.K X.mg H F fp σ Q)
    cases hm : evs its e with
    | bad => rw [hm] at h; exact h
    | exn y e1 => rw [hm] at h; exact h
    | ok ts e1 => rw [hm] at h; exact h)
end
end Rx
end

section
/-! Rx, part 19: d.get(k), xs.pop(i), min, dict(..). -/
namespace Rx
open PySem PySem.Spec PyProof.Rows L2
variable [Prw]
section
variable {K : PySem.W.Frag} {mg : Str → Option Value} {W : WX} {σ : L2.St} {H F H0 F0 : Hp} {fp fp0 : List Addr} {e : Ev}
theorem tyM_use {β : Type} {T : String} {x : IE} {r : Option D} {v : V} {f : Unit → Ev → R β} {k : β → Ev → Prop} (ss : SS K mg H F σ e fp) (o : OpH K mg F σ x r v) (h : WP K mg W σ H0 F0 fp0 ((tyM T x r e).bind f) k) :
    ∃ d, PR K mg H F v d ∧ d.ty = some T ∧ WP K mg W σ H0 F0 fp0 (f () e) k := by
  have h2 : WP K mg W σ H0 F0 fp0 ((fin x r e).bind fun d e1 => (if d.ty = some T then R.ok () e1 else .bad).bind f) k := by
    have e1 : (tyM T x r e).bind f = (fin x r e).bind fun d e1 => (if d.ty = some T then R.ok () e1 else .bad).bind f := by
      unfold tyM
      rw [M.bind_app]
      cases fin x r e <;> rfl
    rw [← e1]; exact h
  obtain ⟨d, pd, h3⟩ := fin_use ss o h2
  by_cases hd : d.ty = some T
  · rw [if_pos hd] at h3; exact ⟨d, pd, hd, h3⟩
  · rw [if_neg hd] at h3; exact h3.elim
theorem PR.dics {v : V} {ds : List (D × D)} (le : Same F H) (p : PR K mg H F v (.dic ds)) : ∃ a kvs, v = .ref a ∧ Rd H a (.dK kvs) ∧ DRk K mg F kvs ds := by
  cases p with
  | fz d =>
    cases d with
    | dK h r => exact ⟨_, _, rfl, Same.rd le h, r⟩
  | dK h r => exact ⟨_, _, rfl, .inl h, r⟩
end
section
variable {X : Cx} {W : WX} {k : Nat} {P : Nat → Bool} {pos p p2 apos cpos : Pos} {a b c e o : Expr} {es rest : List Expr} {xa xb xc x : IE} {xs : List IE}
theorem m1_of {m : Str} (h1 : attributeBase o m X.env (eval o X.env) = eval o X.env) (h2 : ((backTo cpos (starEach [e] X.env)).all (fun x => !x.1) && (backToKw cpos (keywordEach [] X.env)).all (fun x => x.1.isSome)
    && decide (([e] : List Expr).length + ([] : List Keyword).length + (if ([] : List Keyword).isEmpty then 0 else 1) < 30)) = true) (h3 : (apos.endLine == cpos.line) = true) (h4 : backTo cpos (starEach [e] X.env) = [(false, eval e X.env)]) : M1 X o m apos e cpos := ⟨h1, h2, h3, h4⟩
/-- d.get(k) -/
theorem e_get (c : Cq X W k) (ha : JO X W xa o) (hb : JO X W xb e) (h1 : attributeBase o "get" X.env (eval o X.env) = eval o X.env := by rfl) (h2 : ((backTo cpos (starEach [e] X.env)).all (fun x => !x.1) && (backToKw cpos (keywordEach [] X.env)).all (fun x => x.1.isSome)
    && decide (([e] : List Expr).length + ([] : List Keyword).length + (if ([] : List Keyword).isEmpty then 0 else 1) < 30)) = true := by rfl) (h3 : (apos.endLine == cpos.line) = true := by rfl) (h4 : backTo cpos (starEach [e] X.env) = [(false, eval e X.env)] := by rfl) :
    JE X W (.mth "dict" "get" getDk xa [xb]) (.Call (.Attribute o "get" apos) [e] [] cpos) := by
  refine PE.imp (pe_dget1 c.u1 ha hb (m1_of h1 h2 h3 h4)) fun σ H Q h => ?_
  obtain ⟨F, en, fp, ss, h⟩ := h
  have h : WP X.K X.mg W σ H F fp ((opd xa (sem xa).1 en).bind fun ra e1 => (tyM "dict" xa ra e1).bind fun _ e2 => (evOps [xb] e2).bind fun rs e3 => (fin xa ra e3).bind fun x e4 => (fins [xb] rs e4).bind fun ds e5 => M.lift (getDk x ds) e5) (FinV X.K X.mg H F fp σ Q) := h
  refine opd_use Stp.refl ss h fun v H1 F1 fp1 ra e1 s1 _ ss1 o1 h1 => ?_
  obtain ⟨d, pd, hty, h2⟩ := tyM_use ss1 o1 h1
  cases d <;> first | (simp [D.ty] at hty; done) | skip
  rename_i ds
  obtain ⟨ad, kvs, rfl, hH, rk⟩ := pd.dics ss1.le
  refine ⟨ad, rfl, .inl ⟨kvs, hH⟩, ?_⟩
  have h2 : WP X.K X.mg W σ H F fp ((opd xb (sem xb).1 e1).bind fun rb e3 => (fin xa ra e3).bind fun x e4 => (fins [xb] [rb] e4).bind fun ds e5 => M.lift (getDk x ds) e5) (FinV X.K X.mg H F fp σ Q) := by
    have e0 : (evOps [xb] e1) = (opd xb (sem xb).1 e1).bind fun t e2 => .ok [t] e2 := rfl
    rw [e0] at h2
    cases hm : opd xb (sem xb).1 e1 with
    | bad => rw [hm] at h2; exact h2
    | exn z e2 => rw [hm] at h2; exact h2
    | ok t e2 => rw [hm] at h2; exact h2
  refine opd_use s1 ss1 h2 fun w H2 F2 fp2 rb e2 s2 sf2 ss2 o2 h3 => ?_
  obtain ⟨d2, pd2, h4⟩ := fin_use ss2 (o1.mono sf2) h3
  have h4 : WP X.K X.mg W σ H F fp ((fin xb rb e2).bind fun y e5 => M.lift (getDk d2 [y]) e5) (FinV X.K X.mg H F fp σ Q) := by
    have e0 : (fins [xb] [rb] e2) = (fin xb rb e2).bind fun y e4 => .ok [y] e4 := rfl
    rw [e0] at h4
    cases hm : fin xb rb e2 with
    | bad => rw [hm] at h4; exact h4
    | exn z e4 => rw [hm] at h4; exact h4
    | ok t e4 => rw [hm] at h4; exact h4
  obtain ⟨y, py, h5⟩ := fin_use ss2 o2 h4
  obtain ⟨t, ht, hq⟩ := lift_end s2 ss2 h5
  cases d2 <;> first | (cases ht; done) | skip
  rename_i ds2 _
  obtain ⟨a2, kvs2, ea, hH2, rk2⟩ := pd2.dics ss2.le
  cases ea
  have ht : (if isKey y = true then some (OT.fz ((lookD ds2 y).getD .non)) else none) = some t := ht
  by_cases hk : isKey y = true
  · rw [if_pos hk] at ht
    cases ht
    obtain ⟨kk, rfl, rfl, okk⟩ := key_of_DR (py.all ss2.le) (by
      cases y <;> first | (cases hk; done) | skip
      · exact .inl ⟨_, rfl⟩
      · exact .inr ⟨_, rfl⟩)
    refine ⟨_, .inl ⟨_, kk, hH2, rfl, rfl⟩, ?_⟩
    rcases valK (k := kk) rk2 with ⟨l1, l2⟩ | ⟨dd, vv, l1, l2, r⟩
    · rw [l1] at hq; rw [l2]
      exact hq.same ss2.le .non
    · rw [l1] at hq; rw [l2]
      exact hq.same ss2.le r
  · rw [if_neg hk] at ht; cases ht
/-- an index that leaves all as it is -/
def CalmIx (x : IE) : Prop := ∀ e : Ev, (∃ n : Int, (sem x).1 e = .ok (.fz (.int n)) e) ∨ evOpt (some x) e = .bad
theorem calm_con {n : Int} : CalmIx (.con (.int n)) := fun e => .inl ⟨n, rfl⟩
theorem calm_var {j : Nat} : CalmIx (.var j) := fun e => by
  have h : ∀ m : M OT, evOpt (some (.var j)) e = ((sem (.var j)).1 e).bind fun t e1 => intK t.view e1 := fun _ => rfl
  cases hj : e.at j with
  | none =>
    refine .inr ?_
    have : (sem (.var j)).1 e = .bad := by show M.read j e = .bad; simp only [M.read, hj]
    rw [h (M.read j), this]; rfl
  | some t =>
    cases t with
    | fz d =>
      have hs : (sem (.var j)).1 e = .ok (.fz d) e := by show M.read j e = _; simp only [M.read, hj]
      cases d <;> first | exact .inl ⟨_, hs⟩ | (refine .inr ?_; rw [h (M.read j), hs]; rfl)
    | lst ts =>
      refine .inr ?_
      show ((M.read j e).bind fun t e1 => intK t.view e1) = _
      simp only [M.read, hj]; rfl
    | dic ts =>
      refine .inr ?_
      show ((M.read j e).bind fun t e1 => intK t.view e1) = _
      simp only [M.read, hj]; rfl
    | din ts =>
      refine .inr ?_
      show ((M.read j e).bind fun t e1 => intK t.view e1) = _
      simp only [M.read, hj]; rfl
    | ins c ts =>
      refine .inr ?_
      show ((M.read j e).bind fun t e1 => intK t.view e1) = _
      simp only [M.read, hj]; rfl
/-- xs.pop(i), xs a list of its own, the item data -/
theorem e_popi (j : Nat) {n : Str} (hx : JE X W x e) (hc : CalmIx x) (hN : X.N[j]? = some n := by rfl) (hvi : Vis X.env.scope n := by first | exact Or.inl rfl | exact Or.inr (Or.inl rfl) | exact Or.inr (Or.inr rfl)) (hd : (n == ("__debug__" : Str)) = false := by decide) (hcd : (n == ("__classdict__" : Str)) = false := by decide)
    (hbase : attributeBase (.Name n p) "pop" X.env (eval (.Name n p) X.env) = eval (.Name n p) X.env := by rfl)
    (hfew : ((backTo cpos (starEach (e :: []) X.env)).all (fun x => !x.1) && (backToKw cpos (keywordEach [] X.env)).all (fun x => x.1.isSome)
      && decide ((e :: []).length + ([] : List Keyword).length + (if ([] : List Keyword).isEmpty then 0 else 1) < 30)) = true := by rfl)
    (hline : (apos.endLine == cpos.line) = true := by rfl) (hs : starEach (e :: []) X.env = (false, eval e X.env) :: starEach [] X.env := by rfl) (hplain : (backTo cpos (starEach [] X.env)).any (·.1) = false := by rfl) :
    JE X W (.pop j [] (some x)) (.Call (.Attribute (.Name n p) "pop" apos) [e] [] cpos) := by
  refine PE.imp (pe_bm PySem.F.plainAttrs_list PySem.F.slot_list_pop PySem.F.type_list_pop mt_popAt (pe_var hN hvi hd hcd) (pa_cons hx pa_nil hs) hbase hfew hline hs hplain) fun σ H Q h => ?_
  obtain ⟨F, en, fp, ss, h⟩ := h
  have h : WP X.K X.mg W σ H F fp ((evOpt (some x) en).bind fun k => fun e => (match e.at j with
    | some t => (match nav e t [] with
      | some u => (match popO k u with
        | some (d, u') => (match updAt j [] (fun _ => some u') e with
          | some e' => .ok (.fz d) e'
          | none => .bad)
        | none => .bad)
      | none => .bad)
    | none => .bad)) (FinV X.K X.mg H F fp σ Q) := h
  rcases hc en with ⟨i, hi⟩ | hbad
  · have e1 : evOpt (some x) en = .ok (some i) en := by
      show ((sem x).1 en).bind (fun t e1 => intK t.view e1) = _
      rw [hi]; rfl
    rw [e1] at h
    cases hj : en.at j with
    | none => simp only [R.bind, hj] at h; exact h.elim
    | some t =>
      simp only [R.bind, hj, nav] at h
      cases t with
      | fz d => exact h.elim
      | dic d => exact h.elim
      | din d => exact h.elim
      | ins c d => exact h.elim
      | lst ts =>
        obtain ⟨la, vs, g, rest, l⟩ := ss.list hj
        refine ⟨.ref la, l.slot, tyL l.obj, F, en, fp, ss, ?_⟩
        rw [hi]
        intro v H1 F1 fpe fpv vp
        cases vp.val with
        | fz dv =>
          cases dv
          cases hp : popO (some i) (.lst ts) with
          | none => rw [hp] at h; exact h.elim
          | some q =>
            obtain ⟨d, u'⟩ := q
            rw [hp] at h
            have hp : ((plc ts.length i).bind fun n => (ts[n]?).bind fun c => (match c with
              | .fz d => some (d, OT.lst (ts.eraseIdx n))
              | _ => none)) = some (d, u') := hp
            cases hn : plc ts.length i with
            | none => rw [hn] at hp; cases hp
            | some m =>
              rw [hn] at hp
              have hp : ((ts[m]?).bind fun c => (match c with
                | .fz d => some (d, OT.lst (ts.eraseIdx m))
                | _ => none)) = some (d, u') := hp
              cases ht : ts[m]? with
              | none => rw [ht] at hp; cases hp
              | some c =>
                rw [ht] at hp
                cases c with
                | lst q => cases hp
                | dic q => cases hp
                | din q => cases hp
                | ins q r => cases hp
                | fz dd =>
                  cases hp
                  obtain ⟨la2, vs2, g2, rest2, l2⟩ := vp.ss.list hj
                  have : la2 = la := by
                    have := l2.slot.symm.trans l.slot
                    cases this; rfl
                  subst this
                  obtain ⟨v0, g0, hv0, o0⟩ := OTRs.get l2.its ht
                  cases o0 with
                  | fz d0 =>
                    have hlen : vs2.length = ts.length := by
                      have : ∀ {vs : List V} {ts : List OT} {fp : List Addr}, OTRs X.K X.mg H1 F1 vs ts fp → vs.length = ts.length := fun {vs} => by
                        induction vs with
                        | nil => intro ds fp r; cases r; rfl
                        | cons v vs ih => intro ds fp r; cases r with | cons a b c => exact congrArg (· + 1) (ih b)
                      exact this l2.its
                    obtain ⟨q1, q2, q3⟩ := plc_seq hn
                    refine ⟨la2, vs2, i, m, v0, rfl, rfl, l2.obj, ?_, ?_, by rw [hlen]; exact q1, hv0, ?_⟩
                    · have := l2.few; rw [sizeLine_eq] at this; omega
                    · have := l2.few; rw [sizeLine_eq] at this; omega
                    · obtain ⟨g3, r3, sub3⟩ := OTRs.erase m l2.its
                      obtain ⟨fp', s1, s2⟩ := LsAt.put vp.ss l2 (vs' := vs2.eraseIdx m) (by
                        have h1 := l2.few
                        have h2 : (vs2.eraseIdx m).length ≤ vs2.length := by rw [List.length_eraseIdx]; split <;> omega
                        omega) r3 (fun z => l2.na (sub3 _ z)) (fun b hb => l2.dis b (sub3 b hb)) fun b hb => vp.ss.own b ((l2.all b).mpr (.inl (.inr (sub3 b hb))))
                      have hu : updAt j [] (fun _ => some (OT.lst (ts.eraseIdx m))) en = some (en.set j (some (OT.lst (ts.eraseIdx m)))) := by
                        simp only [updAt, hj, setAt, Option.map_some]
                      simp only [hu] at h
                      have h : FinV X.K X.mg H F fp σ Q (.fz d) (en.set j (some (OT.lst (ts.eraseIdx m)))) := h
                      refine h v0 _ F1 fp' [] ⟨(vp.st.trans (l2.stp (gp := []))).sub fun b hb => ?_, s1, .fz d0, nm, nm⟩
                      have hb : b ∈ fp' := by simpa using hb
                      have : b ∈ fpe := by
                        rcases s2 b hb with (z | z) | z
                        · exact (l2.all b).mpr (.inl (.inl z))
                        · exact (l2.all b).mpr (.inl (.inr (sub3 b z)))
                        · exact (l2.all b).mpr (.inr z)
                      simpa using this
  · rw [hbad] at h; exact h.elim
/-! ### built-ins -/
theorem bi_min (hc : X.calm = true) (h : X.mg "min" = none) : HasBi X "min" minB := ⟨h, by decide, .inl ⟨"min", rfl, CallR.cases fun ds t e => by
  match ds, e with
  | [.int i, .int j], e =>
    cases e
    refine ⟨_, call_min2 hc, fun F H vs Q le p q => ?_⟩
    cases p with
    | cons p1 p2 =>
      cases p2 with
      | cons p2 p3 =>
        cases p3
        cases p1.all le
        cases p2.all le
        exact ⟨_, _, rfl, q.int le⟩⟩⟩
theorem FinP.newK {K : PySem.W.Frag} {mg : Str → Option Value} {H F : Hp} {ds : List (D × D)} {kvs : List (Key × V)} {Q : VK} {p : Addr} (le : Same F H) (h : FinP K mg H F (.dic ds) Q) (hp : H p = none) (r : DRk K mg F kvs ds) : Q (.ref p) (upd H p (.dK kvs)) :=
  h _ _ F [p] (Stp.newO hp) (same_new le hp) (.dK upd_same r) fun a ha => by
    have : a = p := by simpa using ha
    rw [this]
    exact Same.free le hp
theorem pairs_ok {K : PySem.W.Frag} {mg : Str → Option Value} {H F : Hp} (le : Same F H) : ∀ {vs : List V} {xs : List D} {kv0 : List (Key × V)} {acc res : List (D × D)}, DRs K mg F vs xs → pairsD xs acc = some res → DRk K mg F kv0 acc →
    ∃ (ps : List Addr) (kvs : List (Key × V)), vs = ps.map V.ref ∧ Paired (fun p kv => SqT K H p [kV kv.1, kv.2]) ps kvs ∧ DRk K mg F (mergeK kv0 kvs) res := fun {vs} => by
  induction vs with
  | nil =>
    intro xs kv0 acc res r h r0
    cases r
    cases h
    exact ⟨[], [], rfl, .nil, r0⟩
  | cons v vs ih =>
    intro xs kv0 acc res r h r0
    cases r with
    | cons r1 r2 =>
      rename_i d ds
      cases d <;> first | (cases h; done) | skip
      rename_i es
      match es, h with
      | [k, w], h =>
        have h : (if isKey k = true then pairsD ds (putD acc k w) else none) = some res := h
        by_cases hk : isKey k = true
        · rw [if_pos hk] at h
          cases r1 with
          | tup s1 s2 s3 =>
            cases s3 with
            | cons t1 t2 =>
              cases t2 with
              | cons t3 t4 =>
                cases t4
                obtain ⟨kk, rfl, rfl, okk⟩ := key_of_DR t1 (by
                  cases k <;> first | (cases hk; done) | skip
                  · exact .inl ⟨_, rfl⟩
                  · exact .inr ⟨_, rfl⟩)
                obtain ⟨ps, kvs, e1, e2, e3⟩ := ih r2 h (putK_ok okk t3 r0)
                exact ⟨_ :: ps, (kk, _) :: kvs, by rw [e1]; rfl, .cons (Same.seqT le s1) e2, e3⟩
        · rw [if_neg hk] at h; cases h
theorem bi_dict (hc : X.calm = true) (h : X.mg "dict" = none) : HasBi X "dict" dictB := ⟨h, by decide, .inr ⟨"dict", rfl, CallR.cases fun ds t e => by
  obtain ⟨d, rfl⟩ := one_of e rfl (fun a b r => by cases a <;> rfl)
  cases d <;> first | (cases e; done) | skip
  case lst xs =>
    have e : (pairsD xs []).map OT.dic = some t := e
    cases hp : pairsD xs [] with
    | none => rw [hp] at e; cases e
    | some res =>
      rw [hp] at e
      cases e
      refine ⟨_, call_dictP hc, fun F H vs Q le p q => ?_⟩
      obtain ⟨v, rfl, p2⟩ := p.one
      obtain ⟨a, vs, rfl, h1, h2, h3⟩ := p2.items le
      obtain ⟨ps, kvs, rfl, e2, e3⟩ := pairs_ok le h3 hp .nil
      exact ⟨a, ps, kvs, rfl, .inl (.inl h1), e2, fun p hp => q.newK le hp e3⟩
  case dic kvs =>
    cases e
    refine ⟨_, call_dictD, fun F H vs Q le p q => ?_⟩
    obtain ⟨v, rfl, p2⟩ := p.one
    obtain ⟨a, kvs, rfl, h1, h2⟩ := p2.dics le
    exact ⟨a, kvs, rfl, h1, fun p hp => q.newK le hp h2⟩⟩⟩
end
end Rx
end

section
/-! Rx, part 20: names of defs as values; what the module holds of RightsError. -/
namespace Rx
open PySem PySem.Spec PyProof.Rows L2
variable [Prw]
section
variable {X : Cx} {W : WX} {pos : Pos}
theorem e_fn {j : Nat} {x : Str} {ms : List Bool} {f : Fn} (h : HasFn X.prog X.w X.K X.mg X.base j x ms f) (hg : Gl X x := by rfl) (hd : (x == ("__debug__" : Str)) = false := by decide) : JE X W (.con (.fn x)) (.Name x pos) := by
  obtain ⟨fa, fd, ps, _, hm, _, _⟩ := h.ex
  exact pe_c (pe_glob hg hm (v := .ref fa) rfl hd) fun F => .fn hm
end
section
variable {X : Cx} {W : WX} {k : Nat} {P : Nat → Bool}
/-- name = {..} on one line, the name a local -/
theorem ps_setDc {i : Nat} {y : Str} {py : Pos} {kx vx tg iter : Expr} {ifs : List Expr} {scope : Scope} {own : List (Str × Nat)} {pos spos : Pos} {wi : TI} {g : TG} {tt : TT} {tk tv : TE} (hc : X.calm = true) (hN : X.N.Nodup) (hy : X.N[i]? = some y) (hyl : X.env.scope.names.lookup y = some .local)
    (hsw : swapsWith (.DictComp kx vx [⟨tg, iter, ifs, 0⟩] scope pos) (some (.Name y py)) spos.line X.env = pure true) (hi : PI X tg iter wi) (ok : BlkOk X.N X.env.scope scope own)
    (hg : ∀ (s : Shared) (H : Hp) (C : Addr) (cl : List (Str × Addr)) (fp : List Addr), PG (X.blk s H scope (compEnvC scope cl C X.env) fp) tg g) (ht : ∀ (s : Shared) (H : Hp) (C : Addr) (cl : List (Str × Addr)) (fp : List Addr), PTs (X.blk s H scope (compEnvC scope cl C X.env) fp) ifs tt)
    (hk : ∀ (s : Shared) (H : Hp) (C : Addr) (cl : List (Str × Addr)) (fp : List Addr), PE (X.blk s H scope (compEnvC scope cl C X.env) fp) kx tk)
    (he : ∀ (s : Shared) (H : Hp) (C : Addr) (cl : List (Str × Addr)) (fp : List Addr), PE (X.blk s H scope (compEnvC scope cl C X.env) fp) vx tv) (hs : ∀ x, foldedSetIterable iter X.env x = pure x := by intro _; rfl) :
    PS X (.Assign [.Name y py] (.DictComp kx vx [⟨tg, iter, ifs, 0⟩] scope pos) spos) (tAsg (tDc wi g tt tk tv (own.map (·.2))) (gName i)) := by
  refine ⟨fun pins s σ H D I h => ?_⟩
  rw [exec_Assign_Name_used _ _ _ _ hsw]
  refine wpAny_bind (wpAny_standAt (wpAny_bind ?_))
  show wpAny _ X.A (do let _ ← comprehension (.DictComp kx vx [⟨tg, iter, ifs, 0⟩] scope pos) scope X.env (firstIterPos [⟨tg, iter, ifs, 0⟩] pos) newDict false (eval iter X.env) (some (assign (.Name y py) X.env))) _ _ s
  have h : tDc wi g tt tk tv (own.map (·.2)) σ H (fun x H1 => gName i x σ H1 D.nx) := h
  refine wpAny_bind (thn (dc_core (Qf := fun _ s' => SP X pins D .next s') hc hN I hi ok hg ht hk he hs h fun L C s' m H' I' q hn f => ?_) fun _ s' hq => wpAny_pure (wpAny_pure hq))
  show wpAny _ _ (assign (.Name y py) X.env (.ref L)) _ _ _
  refine wpAny_assign_Name (store_ok2 (v := V.ref L) I' hN hy (.inl hyl) rfl (fun s2 I2 ⟨a, sb, ha⟩ => ?_) (.inr hyl))
  obtain ⟨f0, f1, f2, f3, f4, f5⟩ := f
  have haC : C ≠ a := by
    rcases ha with z | z
    · rw [z]; exact f1
    · exact fun e => f4 y a z e.symm
  refine ⟨m, hn.sameBut sb haC, fun h3 sb3 => ?_⟩
  exact ⟨_, H', I2.turned (t' := s2.toks) (fun b o hb e => (sb3.2 b hb).trans e) f0 f1 f3 f4 f5, q⟩
theorem swd_true {kx vx : Expr} {gs : List Comprehension} {scope : Scope} {pos py : Pos} {y : Str} {l : Nat} {env : Env} (hk : env.scope.kind = .function) (hy : env.scope.names.lookup y = some .local) (hl : (py.line == pos.line) = true)
    (ha : (scope.names.any fun (n, k) => n == y && (k == .local || k == .cell)) = false) : swapsWith (.DictComp kx vx gs scope pos) (some (.Name y py)) l env = pure true := by
  have ky : env.kindOf y = some .local := hy
  have hb : env.blockKind = .function := by unfold Env.blockKind; rw [hk]; rfl
  unfold swapsWith
  simp only [hb, ky, ha, Expr.pos, hl]
  rfl
variable {iter tg kx vx : Expr} {xk xv : IE}
theorem s_dc (j : Nat) {y : Str} {own : List (Str × Nat)} {sc : Scope} {tgt : TGt} {it : ITK} {its : List IE} {pos py spos : Pos} (c : Cq X W k) (hi : JI X W it its tg iter) (hg : ∀ (s : Shared) (H : Hp) (C : Addr) (cl : List (Str × Addr)) (fp : List Addr), JG (X.blk s H sc (compEnvC sc cl C X.env) fp) tgt tg)
    (hkx : ∀ (s : Shared) (H : Hp) (C : Addr) (cl : List (Str × Addr)) (fp : List Addr), JE (X.blk s H sc (compEnvC sc cl C X.env) fp) W0 xk kx) (he : ∀ (s : Shared) (H : Hp) (C : Addr) (cl : List (Str × Addr)) (fp : List Addr), JE (X.blk s H sc (compEnvC sc cl C X.env) fp) W0 xv vx)
    (hk : X.env.scope.kind = .function := by rfl) (hP : P j = false := by rfl) (hy : X.N[j]? = some y := by rfl) (hyl : X.env.scope.names.lookup y = some .local := by rfl) (hl : (py.line == pos.line) = true := by rfl) (ha : (sc.names.any fun (n, k) => n == y && (k == .local || k == .cell)) = false := by decide +kernel) (ok : blkC X.N X.env.scope sc own = true := by rfl) (hw : (tgt.has.all fun j => (own.map (·.2)).contains j) = true := by rfl) (hs : ∀ x, foldedSetIterable iter X.env x = pure x := by intro _; rfl) :
    JS X W P (.asg j (.dc tgt it its xk xv (own.map (·.2)))) (.Assign [.Name y py] (.DictComp kx vx [⟨tg, iter, [], 0⟩] sc pos) spos) := by
  refine ps_asgD hP (ps_setDc (g := gOf X.K tgt) (tt := tYes) (tk := tD X.K X.mg W0 (sem xk).1) (tv := tD X.K X.mg W0 (sem xv).1) c.calm c.nd hy hyl (swd_true hk hyl hl ha) hi (blkOk_by ok) hg (fun _ _ _ _ _ => pts_nil) hkx he hs) fun σ H Q h => ?_
  exact dc_use hw (by
    obtain ⟨F, e, fp, ss, h⟩ := h
    refine ⟨F, e, fp, ss, ?_⟩
    have h : WP X.K X.mg W σ H F fp ((evs its e).bind fun ts e1 => (M.lift (itemsOf it (OT.views ts)) e1).bind fun xs e2 => dcRun (own.map (·.2)) tgt (sem xk).1 (sem xv).1 xs e2) (FinV X.K X.mg H F fp σ Q) := h
    show WP X.K X.mg W σ H F fp (((evs its e).bind fun ts e1 => (M.lift (itemsOf it (OT.views ts)) e1)).bind fun xs e2 => dcRun (own.map (·.2)) tgt (sem xk).1 (sem xv).1 xs e2) (FinV X.K X.mg H F fp σ Q)
    cases hm : evs its e with
    | bad => rw [hm] at h; exact h
    | exn y e1 => rw [hm] at h; exact h
    | ok ts e1 => rw [hm] at h; exact h)
end
/-! a chain as a test -/
theorem bind_ok {α β : Type} {r : R α} {f : α → Ev → R β} {b : β} {e1 : Ev} (h : r.bind f = .ok b e1) : ∃ a e0, r = .ok a e0 ∧ f a e0 = .ok b e1 := by
  cases r with
  | bad => cases h
  | exn x e => cases h
  | ok a e => exact ⟨a, e, rfl, h⟩
theorem chn_bl {g1 g2 : D → D → Option Bool} {xa xb xc : IE} {ma mb mc : M OT} {e e1 : Ev} {t : OT} (h : chnM g1 g2 xa xb xc ma mb mc e = .ok t e1) : ∃ k, t = .fz (.bl k) := by
  obtain ⟨ra, ea, _, h⟩ := bind_ok h
  obtain ⟨rb, eb, _, h⟩ := bind_ok h
  obtain ⟨x, e2, _, h⟩ := bind_ok h
  obtain ⟨y, e3, _, h⟩ := bind_ok h
  obtain ⟨k, e4, _, h⟩ := bind_ok h
  cases k with
  | false => cases h; exact ⟨false, rfl⟩
  | true =>
    obtain ⟨rc, ec, _, h⟩ := bind_ok h
    obtain ⟨y2, e5, _, h⟩ := bind_ok h
    obtain ⟨z, e6, _, h⟩ := bind_ok h
    obtain ⟨k, e7, _, h⟩ := bind_ok h
    cases h; exact ⟨k, rfl⟩
section
variable {X : Cx} {W : WX} {a b c : Expr} {xa xb xc : IE} {pos : Pos}
theorem t_chn {o1 o2 : CmpOp} {g1 g2 : D → D → Option Bool} (ho : OpD X (compareOp o1) (bl2 g1)) (ho' : OpD X (compareOp o2) (bl2 g2)) (ha : JO X W xa a) (hb : JO X W xb b) (hc : JO X W xc c) (hm : lastMarks [o1, o2] [b, c] = false := by with_unfolding_all rfl) :
    JT X W (.chn o1 o2 g1 g2 xa xb xc) (.Compare a [o1, o2] [b, c] pos) := by
  refine PT.imp (pt_chain ho ho' ha hb hc hm) fun σ H Q h => ?_
  refine chn_use (o1 := o1) (o2 := o2) (Q := fun x H' => ∃ k, x = .bl k ∧ Q k H') ?_
  obtain ⟨F, en, fp, ss, h⟩ := h
  refine ⟨F, en, fp, ss, ?_⟩
  have h : WP X.K X.mg W σ H F fp (((chnM g1 g2 xa xb xc (sem xa).1 (sem xb).1 (sem xc).1 en).bind fun t e1 => .ok (some t.view) e1).bind fun r e1 => (M.lift r e1).bind fun d e2 => M.lift d.truth e2) (FinB X.K X.mg H F fp σ Q) := h
  show WP X.K X.mg W σ H F fp (chnM g1 g2 xa xb xc (sem xa).1 (sem xb).1 (sem xc).1 en) (FinV X.K X.mg H F fp σ fun x H' => ∃ k, x = .bl k ∧ Q k H')
  cases hm : chnM g1 g2 xa xb xc (sem xa).1 (sem xb).1 (sem xc).1 en with
  | bad => rw [hm] at h; exact h
  | exn x e1 => rw [hm] at h; exact h
  | ok t e1 =>
    rw [hm] at h
    obtain ⟨k, rfl⟩ := chn_bl hm
    have h : FinB X.K X.mg H F fp σ Q k e1 := h
    intro v H' F' fpe fpv vp
    cases vp.val with
    | fz dv =>
      cases dv
      exact ⟨k, rfl, h H' F' fpe (by simpa using vp.st) vp.ss⟩
end
/-- an error of the class at S is what «except S» names -/
theorem exm_self {K : PySem.W.Frag} {S : Addr} (h1 : PySem.W.subIn K (.ref S) (.type "BaseException") = some true) (h2 : PySem.W.isClsIn K S = true) (h3 : PySem.W.typeIn K (.ref S) = some (.type "type")) (h4 : PySem.W.subIn K (.ref S) (.ref S) = some true) :
    PySem.W.exmOne K (.ref S) (.ref S) = some true := by
  have e1 : (PySem.W.subIn K (.ref S) (.type "BaseException") == some true) = true := by rw [h1] <;> rfl
  have e2 : ((PySem.W.clsIn K S).isSome && PySem.W.typeIn K (.ref S) == some (.type "type")) = true := by
    have h2' : (PySem.W.clsIn K S).isSome = true := h2
    rw [h2', h3] <;> rfl
  show (if (PySem.W.subIn K (.ref S) (.type "BaseException") == some true) = true then (if ((PySem.W.clsIn K S).isSome && PySem.W.typeIn K (.ref S) == some (.type "type")) = true then PySem.W.subIn K (.ref S) (.ref S) else none) else none) = some true
  rw [if_pos e1, if_pos e2]
  exact h4
section
open PySem.W
theorem along_ve (K : Frag) : alongIn K "__init__" PySem.ReX.veTail = some (some (.builtin "ValueError.__init__")) := by kernel_rfl
theorem drop_own (C : Addr) (l : List Value) : ((Value.ref C :: l).dropWhile (· != .ref C)).drop 1 = l := by
  simp [List.dropWhile_cons]
theorem re_txt {P : Program} {K : Frag} {h : Heap} {mg : Str → Option Value} {C f1 cc cda : Addr} (X : K.In h) (G : h.Ns mainGlobals mg)
    {nm q : Str} {N : Addr} {bs : List Value} {sn : List Str} {sub : List Value} {ab : Bool} {col : Option Bool} {dd : Option Addr} {m0 m1 m2 m3 m5 : Option Value}
    {oc doc pm ct cl ccl : Value} {od an cld cdd : Option Addr} {osl csl ccs : Array (Option Value)} {vs : Array Value} {file : Str} {tf : Tok}
    (aC : nsIn K mainGlobals "RightsError" = some (some (.ref C))) (aS : nsIn K mainGlobals "super" = some none)
    (xL : K.lookup C = some (excClassObj nm q C N bs PySem.ReX.veTail true sn sub ab col dd m0 m1 m2 m3 m5 "ValueError.__new__"))
    (sa : findIn K (.ref C) "__setattr__" = some (some (.builtin "object.__setattr__"))) (ga : findIn K (.ref C) "__getattribute__" = some (some (.builtin "BaseException.__getattribute__"))) (gg : findIn K (.ref C) "__getattr__" = some none) (nb : findIn K (.ref C) "reason" = some none)
    (a1 : findIn K (.ref C) "__init__" = some (some (.ref f1))) (t1 : typeIn K (.ref f1) = some (.type "function"))
    (l1 : K.lookup f1 = some ⟨oc, od, .func (ksFn "__init__" "RightsError.__init__" (PySem.ReX.iA 4) (PySem.ReX.iB 4) PySem.ReX.iS .none .none doc pm an (.ref cda) ct cc), osl⟩) (c1 : codeIn K (.ref cda) "RightsError.__init__" = true)
    (l2 : K.lookup cc = some ⟨cl, cld, .cell (some (.ref C)), csl⟩) (l3 : K.lookup cda = some ⟨ccl, cdd, .fields vs, ccs⟩) (v3 : vs[2]? = some (.str file tf)) (f3 : ((P.main.file : Str) == file) = true)
    (kC : keepIn K (.ref C) = true) (eC : subIn K (.ref C) (.type "BaseException") = some true) (vC : subIn K (.ref C) (.type "ValueError") = some true) (tC : typeIn K (.ref C) = some (.type "type")) (hC : hasDictIn K C = true) (iC : isClsIn K C = true) (sC : subIn K (.ref C) (.ref C) = some true)
    (mr : mroIn K C (.ref C) = some true) (an' : nsIn K cStatics "thirdparty.any" = some none) (tp : (P.main.scope.names.lookup ("super" : Str)).isSome = false) : PySem.ReX.Txt K mg P C f1 :=
  have su : ks_superIn K C C "__init__" = some (some (.builtin "ValueError.__init__")) := by
    have hcl : clsIn K C = some { name := nm, bases := bs, mro := .ref C :: PySem.ReX.veTail, ns := N, qualname := q, hasDict := true, slotNames := sn, subclasses := sub, abstract := ab, collection := col, hasDel := false } := by unfold clsIn; rw [xL] <;> rfl
    unfold ks_superIn
    rw [hcl, Option.bind_some, drop_own]
    exact along_ve K
  { gC := mg_of X G aC, gS := mg_none_of X G aS, cls := ⟨nm, q, N, bs, sn, sub, ab, col, dd, m0, m1, m2, m3, m5, xL⟩, sa := sa, ga := ga, gg := gg, noN := nb, iC := a1, tC := t1, kC := kC, exC := eC, veC := vC, tyC := tC, hdC := hC, te := exm_self eC iC tC sC, sup := su, mro := mr, any := an', top := tp,
    fn := ⟨oc, od, doc, pm, an, cda, cc, ct, osl, l1, c1, ⟨cl, cld, csl, l2⟩, ccl, cdd, vs, ccs, file, tf, l3, v3, f3⟩ }
end
end Rx
end

section
/-! Rx, part 21: sorted. -/
namespace Rx
open PySem PySem.Spec PyProof.Rows L2
variable [Prw]
mutual
theorem toks_py : ∀ d : D, PySem.W.keyToks (toPy d) = D.toks d
  | .non => rfl
  | .bl _ => rfl
  | .int _ => rfl
  | .str s => by
    show [Sum.inr (strOf s).cps.toList] = [Sum.inr s]
    simp [strOf]
  | .tup xs => toks_pys xs
  | .lst xs => toks_pys xs
  | .lk _ => rfl
  | .adr _ => rfl
  | .ali _ _ => rfl
  | .tpn _ => rfl
  | .dic _ => rfl
  | .ins _ _ => rfl
  | .fn _ => rfl
  | .din _ => rfl
theorem toks_pys : ∀ xs : List D, PySem.W.keyToksAll (toPys xs) = D.tokss xs
  | [] => rfl
  | x :: xs => by
    show Sum.inl 1 :: (PySem.W.keyToks (toPy x) ++ PySem.W.keyToksAll (toPys xs)) = Sum.inl 1 :: (D.toks x ++ D.tokss xs)
    rw [toks_py x, toks_pys xs]
end
theorem tkLt_py (a b : Tk) : itemOrd.blt a b = tkLt a b := by cases a <;> cases b <;> rfl
theorem tksLt_py : ∀ a b : List Tk, PyProof.Rows.lexLt itemOrd a b = tksLt a b
  | [], [] => rfl
  | [], _ :: _ => rfl
  | _ :: _, [] => rfl
  | x :: r, y :: t => by
    show (itemOrd.blt x y || (!itemOrd.blt y x && PyProof.Rows.lexLt itemOrd r t)) = _
    rw [tkLt_py, tkLt_py, tksLt_py r t]; rfl
theorem le_py (a b : D) : PySem.W.dataLe false toPy a b = D.le a b := by
  rw [PySem.W.dataLe_eq]
  show (!PySem.W.dataLt (toPy b) (toPy a)) = _
  unfold PySem.W.dataLt D.le
  rw [toks_py, toks_py, tksLt_py]
mutual
theorem alike_py : ∀ a b : D, D.alike a b = true → PySem.W.alike (toPy a) (toPy b) = true
  | .tup xs, .tup ys, h => by
    show PySem.W.alike (.tuple (toPys xs)) (.tuple (toPys ys)) = true
    unfold PySem.W.alike; exact alike_pys xs ys h
  | .lst xs, .lst ys, h => by
    show PySem.W.alike (.list (toPys xs)) (.list (toPys ys)) = true
    unfold PySem.W.alike; exact alike_pys xs ys h
  | .non, b, h => by cases b <;> first | (unfold toPy PySem.W.alike; rfl) | cases h
  | .bl _, b, h => by cases b <;> first | (unfold toPy PySem.W.alike; rfl) | cases h
  | .int _, b, h => by cases b <;> first | (unfold toPy PySem.W.alike; rfl) | cases h
  | .str _, b, h => by cases b <;> first | (unfold toPy PySem.W.alike; rfl) | cases h
  | .lk _, b, h => by cases b <;> cases h
  | .adr _, b, h => by cases b <;> cases h
  | .ali _ _, b, h => by cases b <;> cases h
  | .tpn _, b, h => by cases b <;> cases h
  | .dic _, b, h => by cases b <;> cases h
  | .ins _ _, b, h => by cases b <;> cases h
  | .fn _, b, h => by cases b <;> cases h
  | .din _, b, h => by cases b <;> cases h
  | .tup _, .non, h => by cases h
theorem alike_pys : ∀ xs ys : List D, D.alikes xs ys = true → PySem.W.alikeAll (toPys xs) (toPys ys) = true
  | [], _, _ => by unfold toPys PySem.W.alikeAll; rfl
  | _ :: _, [], _ => by
    show PySem.W.alikeAll (toPy _ :: toPys _) [] = true
    unfold PySem.W.alikeAll; rfl
  | x :: xs, y :: ys, h => by
    have h : (D.alike x y && D.alikes xs ys) = true := h
    rw [Bool.and_eq_true] at h
    show PySem.W.alikeAll (toPy x :: toPys xs) (toPy y :: toPys ys) = true
    unfold PySem.W.alikeAll
    rw [alike_py x y h.1, alike_pys xs ys h.2]; rfl
end
def rSortD (K : PySem.W.Frag) : List V → Hp → VK → Prop := fun vs H Q => ∃ (a : Addr) (bs : List (V × D)), vs = [V.ref a] ∧ SqL K H a (bs.map (·.1)) ∧ (∀ b ∈ bs, Dp K H b.1 (toPy b.2) ∧ (toPy b.2).depth ≤ 60) ∧
  PySem.W.AllAlike (bs.map fun b => toPy b.2) ∧ PySem.W.Sortable (bs.map fun b => toPy b.2) ∧ ∀ p, H p = none → Q (.ref p) (upd H p (.lst ((bs.mergeSort fun x y => D.le x.2 y.2).map (·.1))))
theorem each_vals {bs : List (V × D)} : ∀ {us : List Value}, Vals (bs.map (·.1)) us → PySem.W.EachIs (fun u (b : V × D) => RelV b.1 u) us bs := by
  induction bs with
  | nil => intro us r; cases r; exact .nil
  | cons b bs ih =>
    intro us r
    cases r with
    | cons h t => exact .cons h (ih t)
theorem vals_each {bs : List (V × D)} : ∀ {us : List Value}, PySem.W.EachIs (fun u (b : V × D) => RelV b.1 u) us bs → Vals (bs.map (·.1)) us := by
  induction bs with
  | nil => intro us r; cases r; exact .nil
  | cons b bs ih =>
    intro us r
    cases r with
    | cons h t => exact .cons h (ih t)
section
variable {X : Cx}
theorem cr_sortD (hu : X.A.units + 64 < cLine) : CallR X (.builtin "sorted") (rSortD X.K) := by
  intro pins s σ H vs us Q I r h
  obtain ⟨a, bs, rfl, hs, hd, hal, hsr, q⟩ := h
  obtain ⟨its, rv, hl, hz⟩ := I.list hs
  obtain ⟨u, rfl, ru⟩ := vals1 r
  obtain rfl : u = Value.ref a := ru
  have e := each_vals rv
  have er : PySem.W.EachIs (fun u (b : V × D) => ∃ as, Reads s.heap u (toPy b.2) as) its bs := by
    have go : ∀ (bs : List (V × D)) (us : List Value), (∀ b ∈ bs, Dp X.K H b.1 (toPy b.2) ∧ (toPy b.2).depth ≤ 60) → PySem.W.EachIs (fun u (b : V × D) => RelV b.1 u) us bs → PySem.W.EachIs (fun u (b : V × D) => ∃ as, Reads s.heap u (toPy b.2) as) us bs := by
      intro bs
      induction bs with
      | nil => intro us _ r; cases r; exact .nil
      | cons b bs ih =>
        intro us hd r
        cases r with
        | cons h t => exact .cons (Dp.reads I _ _ _ (hd b List.mem_cons_self).1 h) (ih _ (fun b hb => hd b (List.mem_cons_of_mem _ hb)) t)
    exact go bs its hd e
  rw [List.length_map] at hz
  refine PySem.W.sorted_data (enc := fun b : V × D => toPy b.2) hl.isList e er hal hsr hz (fun b hb => ?_) fun out ho eo => ?_
  · have := (hd b hb).2
    omega
  · have e1 : PySem.W.dataLe false (fun b : V × D => toPy b.2) = fun x y => D.le x.2 y.2 := by
      funext x y
      exact le_py x.2 y.2
    rw [e1] at eo
    obtain ⟨n, hn⟩ := sortedAll_at s.heap its out.toArray
    refine ⟨.ref (s.heap.objs.size + 1), upd H (s.heap.objs.size + 1) (.lst ((bs.mergeSort fun x y => D.le x.2 y.2).map (·.1))), I.laid (t' := s.toks) (fun _ _ => sortedAll_old) (Nat.le_succ _) ⟨?_, out, n, vals_each eo, hn⟩, rfl, q _ (I.hok.fresh (Nat.le_succ _))⟩
    rw [List.length_map, List.length_mergeSort]; exact hz
def rSort1 (K : PySem.W.Frag) : List V → Hp → VK → Prop := fun vs H Q => ∃ (a : Addr) (xs : List V), vs = [V.ref a] ∧ SqL K H a xs ∧ xs.length < 2 ∧ ∀ p, H p = none → Q (.ref p) (upd H p (.lst xs))
theorem cr_sort1 : CallR X (.builtin "sorted") (rSort1 X.K) := by
  intro pins s σ H vs us Q I r h
  obtain ⟨a, xs, rfl, hs, h2, q⟩ := h
  obtain ⟨its, rv, hl, hz⟩ := I.list hs
  obtain ⟨u, rfl, ru⟩ := vals1 r
  obtain rfl : u = Value.ref a := ru
  refine Srt.sorted_any hl.isList (by rw [← rv.length]; exact hz) (fun h => absurd h (by rw [← rv.length]; omega)) fun out ho => ?_
  have e : out = its := by
    have hl2 := ho.length_eq
    rw [← rv.length] at hl2
    match out, its, ho, hl2 with
    | [], its, ho, _ => exact (List.Perm.eq_nil ho.symm).symm
    | [x], its, ho, _ => exact (List.perm_singleton.mp ho.symm).symm
    | _ :: _ :: _, _, _, hl2 => simp at hl2; omega
  subst e
  obtain ⟨n, hn⟩ := sortedAll_at s.heap out out.toArray
  exact ⟨.ref (s.heap.objs.size + 1), upd H (s.heap.objs.size + 1) (.lst xs), I.laid (t' := s.toks) (fun _ _ => sortedAll_old) (Nat.le_succ _) ⟨hz, out, n, rv, hn⟩, rfl, q _ (I.hok.fresh (Nat.le_succ _))⟩
theorem DRs.zip {K : PySem.W.Frag} {mg : Str → Option Value} {F : Hp} : ∀ {vs : List V} {xs : List D}, DRs K mg F vs xs → (vs.zip xs).map (·.1) = vs ∧ (vs.zip xs).map (·.2) = xs ∧ ∀ b ∈ vs.zip xs, DR K mg F b.1 b.2
  | _, _, .nil => ⟨rfl, rfl, fun _ h => nomatch h⟩
  | _, _, .cons h t => by
    obtain ⟨e1, e2, e3⟩ := DRs.zip t
    refine ⟨by rw [List.zip_cons_cons, List.map_cons, e1], by rw [List.zip_cons_cons, List.map_cons, e2], fun b hb => ?_⟩
    rw [List.zip_cons_cons] at hb
    rcases List.mem_cons.mp hb with rfl | hb
    · exact h
    · exact e3 b hb
theorem DRs.unzip {K : PySem.W.Frag} {mg : Str → Option Value} {F : Hp} : ∀ (l : List (V × D)), (∀ b ∈ l, DR K mg F b.1 b.2) → DRs K mg F (l.map (·.1)) (l.map (·.2))
  | [], _ => .nil
  | b :: l, h => .cons (h b List.mem_cons_self) (DRs.unzip l fun x hx => h x (List.mem_cons_of_mem _ hx))
theorem isTup1_py {d : D} (h : isTup1 d = true) : ∃ x r, toPy d = .tuple (x :: r) := by
  cases d <;> first | cases h | skip
  rename_i xs
  cases xs with
  | nil => cases h
  | cons x r => exact ⟨toPy x, toPys r, rfl⟩
theorem notTN_py {d : D} (h : notTN d = true) (h2 : D.eqok 60 d = true) : toPy d ≠ .none ∧ ∀ xs, toPy d ≠ .tuple xs := by
  cases d <;> first | exact ⟨fun e => (PyData.noConfusion e), fun _ e => (PyData.noConfusion e)⟩ | (cases h; done)
theorem eqoks_mem {n : Nat} : ∀ {xs : List D}, D.eqoks n xs = true → ∀ d ∈ xs, D.eqok n d = true
  | [], _, d, h => nomatch h
  | x :: xs, h, d, hd => by
    have h : (D.eqok n x && D.eqoks n xs) = true := h
    rw [Bool.and_eq_true] at h
    rcases List.mem_cons.mp hd with rfl | hd
    · exact h.1
    · exact eqoks_mem h.2 d hd
theorem bi_sorted (hu : X.A.units + 64 < cLine) (h : X.mg "sorted" = none) : HasBi X "sorted" sortedB := ⟨h, by decide, .inl ⟨"sorted", rfl, CallR.cases fun ds t e => by
  obtain ⟨d, rfl⟩ := one_of e rfl (fun a b r => by cases a <;> rfl)
  cases d <;> first | (cases e; done) | skip
  case lst xs =>
    have e : (if xs.length < 2 then some (OT.ml xs) else if sortOk xs = true ∧ xs.length ≤ sizeMax then some (OT.ml (xs.mergeSort D.le)) else none) = some t := e
    by_cases h2 : xs.length < 2
    · rw [if_pos h2] at e
      cases e
      refine ⟨_, cr_sort1, fun F H vs Q le p q => ?_⟩
      obtain ⟨v, rfl, p2⟩ := p.one
      obtain ⟨a, vs, rfl, h1, h4, h3⟩ := p2.items le
      obtain ⟨z1, z2, z3⟩ := h3.zip
      have e1 := congrArg List.length z1
      have e2 := congrArg List.length z2
      rw [List.length_map] at e1 e2
      exact ⟨a, vs, rfl, .inl (.inl h1), by omega, fun p hp => q.newL le hp h3 h4⟩
    rw [if_neg h2] at e
    by_cases hk : sortOk xs = true ∧ xs.length ≤ sizeMax
    · rw [if_pos hk] at e
      cases e
      obtain ⟨hk, _⟩ := hk
      simp only [sortOk, Bool.and_eq_true, Bool.or_eq_true, List.all_eq_true] at hk
      obtain ⟨⟨k1, k2⟩, k3⟩ := hk
      refine ⟨_, cr_sortD hu, fun F H vs Q le p q => ?_⟩
      obtain ⟨v, rfl, p2⟩ := p.one
      obtain ⟨a, vs, rfl, h1, h2, h3⟩ := p2.items le
      obtain ⟨z1, z2, z3⟩ := h3.zip
      have mem2 : ∀ b ∈ vs.zip xs, b.2 ∈ xs := fun b hb => by
        have : b.2 ∈ (vs.zip xs).map (·.2) := List.mem_map.mpr ⟨b, hb, rfl⟩
        rwa [z2] at this
      have e3 : (vs.zip xs).map (fun b => toPy b.2) = xs.map toPy := by
        conv => rhs; rw [← z2]
        rw [List.map_map]; rfl
      refine ⟨a, vs.zip xs, rfl, by rw [z1]; exact .inl (.inl h1), fun b hb => ?_, ?_, ?_, fun p hp => ?_⟩
      · obtain ⟨q1, _, q3⟩ := dp_of 60 b.2 b.1 (eqoks_mem k1 _ (mem2 b hb)) (DR.mono le (z3 b hb))
        exact ⟨q1, q3⟩
      · rw [e3]
        intro d hd d' hd'
        obtain ⟨x, hx, rfl⟩ := List.mem_map.mp hd
        obtain ⟨y, hy, rfl⟩ := List.mem_map.mp hd'
        exact alike_py x y (k2 x hx y hy)
      · rw [e3]
        rcases k3 with k3 | k3
        · refine .inl fun d hd => ?_
          obtain ⟨x, hx, rfl⟩ := List.mem_map.mp hd
          exact isTup1_py (k3 x hx)
        · refine .inr fun d hd => ?_
          obtain ⟨x, hx, rfl⟩ := List.mem_map.mp hd
          exact notTN_py (k3 x hx) (eqoks_mem k1 x hx)
      · have e4 : ((vs.zip xs).mergeSort fun x y => D.le x.2 y.2).map (·.2) = xs.mergeSort D.le := by
          conv => rhs; rw [← z2]
          exact List.map_mergeSort fun _ _ _ _ => rfl
        refine q.newL le hp ?_ ?_
        · rw [← e4]
          exact DRs.unzip _ fun b hb => z3 b ((List.mergeSort_perm _ _).mem_iff.mp hb)
        · rw [List.length_map, List.length_mergeSort]
          have : (vs.zip xs).length = vs.length := by
            conv => rhs; rw [← z1]
            rw [List.length_map]
          rw [this]; exact h2
    · rw [if_neg hk] at e; cases e⟩⟩
end
end Rx
end

section
/-! Rx, part 22: paths within owned things: reads, stores, appends. -/
namespace Rx
open PySem PySem.Spec PyProof.Rows L2
variable [Prw]
section
variable (K : PySem.W.Frag) (mg : Str → Option Value) (σ : L2.St) (H : Hp)
/-- one step within the heap -/
inductive StepV : V → Wy → V → Prop
  | c {a : Addr} {vs : List V} {i : Int} {k : Nat} {v : V} : (SqL K H a vs ∨ SqT K H a vs) → plc vs.length i = some k → vs[k]? = some v → StepV (.ref a) (.c i) v
  | v {a : Addr} {vs : List V} {j : Nat} {i : Int} {k : Nat} {v : V} : σ[j]? = some (some (.int i)) → (SqL K H a vs ∨ SqT K H a vs) → plc vs.length i = some k → vs[k]? = some v → StepV (.ref a) (.v j) v
  | f {a C dx : Addr} {fs : List (Str × V)} {cs : List Str} {c x : Str} {v : V} : H a = some (.ins C dx fs) → c ∈ cs → mg c = some (.ref C) → fs.lookup x = some v → StepV (.ref a) (.f cs x) v
inductive WalkV : V → List Wy → V → Prop
  | nil {v : V} : WalkV v [] v
  | cons {v v1 v2 : V} {s : Wy} {ss : List Wy} : StepV K mg σ H v s v1 → WalkV v1 ss v2 → WalkV v (s :: ss) v2
end
section
variable {K : PySem.W.Frag} {mg : Str → Option Value} {W : WX} {σ : L2.St} {H F H' F' H1 F1 : Hp} {fp fpe fpv : List Addr} {e : Ev}
theorem WalkV.last {v v2 : V} {s : Wy} : ∀ {ss : List Wy}, WalkV K mg σ H v (ss ++ [s]) v2 → ∃ v1, WalkV K mg σ H v ss v1 ∧ StepV K mg σ H v1 s v2 := fun {ss} => by
  induction ss generalizing v with
  | nil => intro h; cases h with | cons a b => cases b; exact ⟨_, .nil, a⟩
  | cons x r ih => intro h; cases h with | cons a b => obtain ⟨v1, h1, h2⟩ := ih b; exact ⟨v1, .cons a h1, h2⟩
/-- the names that hold numbers -/
def VarsOk (σ : L2.St) (e : Ev) : Prop := ∀ j i, e.at j = some (.fz (.int i)) → σ[j]? = some (some (.int i))
theorem SS.vars (ss : SS K mg H F σ e fp) : VarsOk σ e := fun j i h => by
  obtain ⟨v, g, h1, h2, _⟩ := ss.env.at h
  cases h2 with | fz d => cases d; exact h1
theorem DRs.len' : ∀ {vs : List V} {ds : List D}, DRs K mg F vs ds → vs.length = ds.length
  | _, _, .nil => rfl
  | _, _, .cons _ r => congrArg (· + 1) (DRs.len' r)
theorem OTRs.len : ∀ {vs : List V} {ts : List OT} {fp : List Addr}, OTRs K mg H F vs ts fp → vs.length = ts.length
  | _, _, _, .nil => rfl
  | _, _, _, .cons _ r _ => congrArg (· + 1) (OTRs.len r)
theorem DRs.getAt' : ∀ {vs : List V} {ds : List D} {k : Nat} {d : D}, DRs K mg F vs ds → ds[k]? = some d → ∃ v, vs[k]? = some v ∧ DR K mg F v d
  | _, _, _, _, .nil, h => by simp at h
  | _, _, 0, _, .cons o r, h => by simp at h; subst h; exact ⟨_, rfl, o⟩
  | _, _, n + 1, _, .cons o r, h => by
    obtain ⟨v, h1, h2⟩ := DRs.getAt' (k := n) r (by simpa using h)
    exact ⟨v, by simpa using h1, h2⟩
theorem getI_plc {α : Type} {xs : List α} {i : Int} {x : α} (h : getI xs i = some x) : ∃ k, plc xs.length i = some k ∧ xs[k]? = some x := by
  unfold getI at h
  cases hp : plc xs.length i with
  | none => rw [hp] at h; cases h
  | some k => rw [hp] at h; exact ⟨k, rfl, h⟩
/-- a frozen step -/
theorem DR.step {v : V} {d : D} {s : Wy} {u : OT} (le : Same F H) (hv : VarsOk σ e) (h : DR K mg F v d) (hc : s.child e (.fz d) = some u) : ∃ v1 d1, u = .fz d1 ∧ StepV K mg σ H v s v1 ∧ DR K mg F v1 d1 := by
  cases s with
  | c i =>
    cases d <;> first | (cases hc; done) | skip
    case lst ds =>
      have hc : (getI ds i).map OT.fz = some u := hc
      obtain ⟨d1, h1, rfl⟩ := Option.map_eq_some_iff.mp hc
      obtain ⟨k, h2, h3⟩ := getI_plc h1
      cases h with
      | lst ha hz r =>
        obtain ⟨v1, h4, h5⟩ := DRs.getAt' r h3
        exact ⟨v1, d1, rfl, .c (.inl (SqL.of (le _ _ ha))) (by rw [r.len']; exact h2) h4, h5⟩
    case tup ds =>
      have hc : (getI ds i).map OT.fz = some u := hc
      obtain ⟨d1, h1, rfl⟩ := Option.map_eq_some_iff.mp hc
      obtain ⟨k, h2, h3⟩ := getI_plc h1
      cases h with
      | tup ha hz r =>
        obtain ⟨v1, h4, h5⟩ := DRs.getAt' r h3
        exact ⟨v1, d1, rfl, .c (.inr (Same.seqT le ha)) (by rw [r.len']; exact h2) h4, h5⟩
  | v j =>
    cases hj : e.at j with
    | none => simp [Wy.child, hj] at hc
    | some t =>
      cases t <;> first | (simp [Wy.child, hj] at hc; done) | skip
      rename_i dj
      cases dj <;> first | (simp [Wy.child, hj] at hc; done) | skip
      rename_i i
      cases d <;> first | (simp [Wy.child, hj] at hc; done) | skip
      case lst ds =>
        have hc : (getI ds i).map OT.fz = some u := by simpa [Wy.child, hj] using hc
        obtain ⟨d1, h1, rfl⟩ := Option.map_eq_some_iff.mp hc
        obtain ⟨k, h2, h3⟩ := getI_plc h1
        cases h with
        | lst ha hz r =>
          obtain ⟨v1, h4, h5⟩ := DRs.getAt' r h3
          exact ⟨v1, d1, rfl, .v (hv _ _ hj) (.inl (SqL.of (le _ _ ha))) (by rw [r.len']; exact h2) h4, h5⟩
      case tup ds =>
        have hc : (getI ds i).map OT.fz = some u := by simpa [Wy.child, hj] using hc
        obtain ⟨d1, h1, rfl⟩ := Option.map_eq_some_iff.mp hc
        obtain ⟨k, h2, h3⟩ := getI_plc h1
        cases h with
        | tup ha hz r =>
          obtain ⟨v1, h4, h5⟩ := DRs.getAt' r h3
          exact ⟨v1, d1, rfl, .v (hv _ _ hj) (.inr (Same.seqT le ha)) (by rw [r.len']; exact h2) h4, h5⟩
  | f cs x =>
    cases d <;> first | (cases hc; done) | skip
    case ins c fs =>
      have hc : (if c ∈ cs then (fs.lookup x).map OT.fz else none) = some u := hc
      by_cases hm : c ∈ cs
      · rw [if_pos hm] at hc
        obtain ⟨d1, h1, rfl⟩ := Option.map_eq_some_iff.mp hc
        cases h with
        | ins ha m r =>
          obtain ⟨v1, h4, h5⟩ := DRf.lookup r h1
          exact ⟨v1, d1, rfl, .f (le _ _ ha) hm m h4, h5⟩
      · rw [if_neg hm] at hc; cases hc
theorem DR.walk (le : Same F H) (hv : VarsOk σ e) : ∀ {ss : List Wy} {v : V} {d : D} {u : OT}, DR K mg F v d → nav e (.fz d) ss = some u → ∃ v1 d1, u = .fz d1 ∧ WalkV K mg σ H v ss v1 ∧ DR K mg F v1 d1
  | [], v, d, u, h, hn => by cases hn; exact ⟨v, d, rfl, .nil, h⟩
  | s :: ss, v, d, u, h, hn => by
    have hn : ((s.child e (.fz d)).bind fun u => nav e u ss) = some u := hn
    cases hc : s.child e (.fz d) with
    | none => rw [hc] at hn; cases hn
    | some u1 =>
      rw [hc] at hn
      obtain ⟨v1, d1, rfl, s1, r1⟩ := h.step le hv hc
      obtain ⟨v2, d2, rfl, s2, r2⟩ := DR.walk le hv r1 hn
      exact ⟨v2, d2, rfl, .cons s1 s2, r2⟩
/-- a child of an owned list; what may come in its place -/
theorem OTRs.child : ∀ {vs : List V} {ts : List OT} {fp : List Addr} {n : Nat} {t : OT}, OTRs K mg H F vs ts fp → ts[n]? = some t → ∃ v g, vs[n]? = some v ∧ OTR K mg H F v t g ∧ (∀ a ∈ g, a ∈ fp) ∧
    ∀ (H' F' : Hp) (t' : OT) (g' : List Addr), Same F F' → (∀ a ∈ fp, a ∉ g → ∀ o, H a = some o → H' a = some o) → OTR K mg H' F' v t' g' → (∀ a ∈ g', a ∈ g ∨ a ∉ fp) → ∃ fp', OTRs K mg H' F' vs (ts.set n t') fp' ∧ ∀ a ∈ fp', a ∈ g' ∨ (a ∈ fp ∧ a ∉ g)
  | _, _, _, _, _, .nil, h => by simp at h
  | _, _, _, 0, t, .cons (v := v) (fp := g) (fps := gs) o r n, h => by
    simp at h; subst h
    refine ⟨v, g, rfl, o, fun a ha => List.mem_append_left _ ha, fun H' F' t' g' s k o' d => ⟨g' ++ gs, .cons o' (r.keep s fun a ha => k a (List.mem_append_right _ ha) fun z => n a z ha) (fun a ha z => ?_), fun a ha => ?_⟩⟩
    · rcases d a ha with q | q
      · exact n a q z
      · exact q (List.mem_append_right _ z)
    · rcases List.mem_append.mp ha with q | q
      · exact .inl q
      · exact .inr ⟨List.mem_append_right _ q, fun z => n a z q⟩
  | _, _, _, m + 1, t, .cons (fp := g0) (fps := gs) o r n, h => by
    obtain ⟨v, g, h1, h2, h3, h4⟩ := OTRs.child (n := m) r (by simpa using h)
    refine ⟨v, g, by simpa using h1, h2, fun a ha => List.mem_append_right _ (h3 a ha), fun H' F' t' g' s k o' d => ?_⟩
    obtain ⟨fp', q1, q2⟩ := h4 H' F' t' g' s (fun a ha hn => k a (List.mem_append_right _ ha) hn) o' (fun a ha => (d a ha).imp id fun z y => z (List.mem_append_right _ y))
    refine ⟨g0 ++ fp', .cons (o.keep s fun a ha => k a (List.mem_append_left _ ha) fun z => n a ha (h3 a z)) q1 (fun a ha z => ?_), fun a ha => ?_⟩
    · rcases q2 a z with y | ⟨y, _⟩
      · rcases d a y with w | w
        · exact n a ha (h3 a w)
        · exact w (List.mem_append_left _ ha)
      · exact n a ha y
    · rcases List.mem_append.mp ha with q | q
      · exact .inr ⟨List.mem_append_left _ q, fun z => n a q (h3 a z)⟩
      · exact (q2 a q).imp id fun ⟨y, z⟩ => ⟨List.mem_append_right _ y, z⟩
theorem OTRf.child : ∀ {vs : List (Str × V)} {ts : List (Str × OT)} {fp : List Addr} {x : Str} {t : OT}, OTRf K mg H F vs ts fp → ts.lookup x = some t → ∃ v g, vs.lookup x = some v ∧ OTR K mg H F v t g ∧ (∀ a ∈ g, a ∈ fp) ∧
    ∀ (H' F' : Hp) (t' : OT) (g' : List Addr), Same F F' → (∀ a ∈ fp, a ∉ g → ∀ o, H a = some o → H' a = some o) → OTR K mg H' F' v t' g' → (∀ a ∈ g', a ∈ g ∨ a ∉ fp) → ∃ fp', OTRf K mg H' F' vs (putA x t' ts) fp' ∧ ∀ a ∈ fp', a ∈ g' ∨ (a ∈ fp ∧ a ∉ g)
  | _, _, _, _, _, .nil, h => by cases h
  | _, _, _, x, t, .cons (f := f) (v := v) (fp := g) (fps := gs) o r n, h => by
    by_cases e : f = x
    · subst e
      rw [List.lookup_cons, beq_self_eq_true] at h
      cases h
      refine ⟨v, g, by rw [List.lookup_cons, beq_self_eq_true], o, fun a ha => List.mem_append_left _ ha, fun H' F' t' g' s k o' d => ⟨g' ++ gs, ?_, fun a ha => ?_⟩⟩
      · simp only [putA, if_pos rfl]
        exact .cons o' (r.keep s fun a ha => k a (List.mem_append_right _ ha) fun z => n a z ha) (fun a ha z => (d a ha).elim (fun q => n a q z) fun q => q (List.mem_append_right _ z))
      · rcases List.mem_append.mp ha with q | q
        · exact .inl q
        · exact .inr ⟨List.mem_append_right _ q, fun z => n a z q⟩
    · have e2 : (x == f) = false := by simpa using fun z : x = f => e z.symm
      rw [List.lookup_cons, e2] at h
      obtain ⟨v1, g1, h1, h2, h3, h4⟩ := OTRf.child r h
      refine ⟨v1, g1, by rw [List.lookup_cons, e2]; exact h1, h2, fun a ha => List.mem_append_right _ (h3 a ha), fun H' F' t' g' s k o' d => ?_⟩
      obtain ⟨fp', q1, q2⟩ := h4 H' F' t' g' s (fun a ha hn => k a (List.mem_append_right _ ha) hn) o' (fun a ha => (d a ha).imp id fun z y => z (List.mem_append_right _ y))
      refine ⟨g ++ fp', ?_, fun a ha => ?_⟩
      · simp only [putA, if_neg e]
        refine .cons (o.keep s fun a ha => k a (List.mem_append_left _ ha) fun z => n a ha (h3 a z)) q1 (fun a ha z => ?_)
        rcases q2 a z with y | ⟨y, _⟩
        · rcases d a y with w | w
          · exact n a ha (h3 a w)
          · exact w (List.mem_append_left _ ha)
        · exact n a ha y
      · rcases List.mem_append.mp ha with q | q
        · exact .inr ⟨List.mem_append_left _ q, fun z => n a q (h3 a z)⟩
        · exact (q2 a q).imp id fun ⟨y, z⟩ => ⟨List.mem_append_right _ y, z⟩
/-- what stands at a path; what may come in its place -/
def Zip (K : PySem.W.Frag) (mg : Str → Option Value) (σ : L2.St) (H F : Hp) (v : V) (fp : List Addr) (e : Ev) (t : OT) (ss : List Wy) (u : OT) (v' : V) (g : List Addr) : Prop :=
  WalkV K mg σ H v ss v' ∧ OTR K mg H F v' u g ∧ (∀ a ∈ g, a ∈ fp) ∧
    ∀ (H' F' : Hp) (u' t' : OT) (g' : List Addr) (f : OT → Option OT), f u = some u' → setAt e f t ss = some t' → Same F F' → (∀ a ∈ fp, a ∉ g → ∀ o, H a = some o → H' a = some o) → OTR K mg H' F' v' u' g' → (∀ a ∈ g', a ∈ g ∨ a ∉ fp) →
      ∃ fp', OTR K mg H' F' v t' fp' ∧ ∀ a ∈ fp', a ∈ g' ∨ (a ∈ fp ∧ a ∉ g)
theorem setAt_fz {f : OT → Option OT} {d : D} {s : Wy} {ss : List Wy} : setAt e f (.fz d) (s :: ss) = none := by cases s <;> rfl
theorem setAt_nil {f : OT → Option OT} {t : OT} : setAt e f t [] = f t := by cases t <;> rfl
/-- within an owned list -/
theorem zip_list {a : Addr} {vs : List V} {ts : List OT} {fp0 : List Addr} {n : Nat} {c : OT} {s : Wy} {ss : List Wy} {u : OT} (hl : H a = some (.lst vs)) (hz : vs.length ≤ sizeLine) (r : OTRs K mg H F vs ts fp0) (na : a ∉ fp0) (hc : ts[n]? = some c)
    (hst : ∀ v1, vs[n]? = some v1 → StepV K mg σ H (.ref a) s v1) (hset : ∀ f, setAt e f (.lst ts) (s :: ss) = (setAt e f c ss).map fun c' => .lst (ts.set n c'))
    (ih : ∀ {v : V} {fp : List Addr}, OTR K mg H F v c fp → ∃ v' g, Zip K mg σ H F v fp e c ss u v' g) : ∃ v' g, Zip K mg σ H F (.ref a) (a :: fp0) e (.lst ts) (s :: ss) u v' g := by
  obtain ⟨v1, g1, h1, h2, h3, h4⟩ := r.child hc
  obtain ⟨v', g, w1, w2, w3, w4⟩ := ih h2
  refine ⟨v', g, .cons (hst v1 h1) w1, w2, fun b hb => List.mem_cons_of_mem _ (h3 b (w3 b hb)), fun H' F' u' t' g' f hf hs sm k o' d => ?_⟩
  rw [hset] at hs
  obtain ⟨c', hc', rfl⟩ := Option.map_eq_some_iff.mp hs
  obtain ⟨fp1, q1, q2⟩ := w4 H' F' u' c' g' f hf hc' sm (fun b hb hn => k b (List.mem_cons_of_mem _ (h3 b hb)) hn) o' (fun b hb => (d b hb).imp id fun z y => z (List.mem_cons_of_mem _ (h3 b y)))
  obtain ⟨fp2, p1, p2⟩ := h4 H' F' c' fp1 sm (fun b hb hn => k b (List.mem_cons_of_mem _ hb) fun z => hn (w3 b z)) q1 (fun b hb => by
    rcases q2 b hb with y | ⟨y, _⟩
    · rcases d b y with z | z
      · exact .inl (w3 b z)
      · exact .inr fun x => z (List.mem_cons_of_mem _ x)
    · exact .inl y)
  have agn : a ∉ g := fun z => na (h3 a (w3 a z))
  have afp2 : a ∉ fp2 := fun z => by
    rcases p2 a z with y | ⟨y, _⟩
    · rcases q2 a y with x | ⟨x, _⟩
      · rcases d a x with m | m
        · exact agn m
        · exact m List.mem_cons_self
      · exact na (h3 a x)
    · exact na y
  refine ⟨a :: fp2, .lst (k a List.mem_cons_self agn _ hl) hz p1 afp2, fun b hb => ?_⟩
  rcases List.mem_cons.mp hb with rfl | hb
  · exact .inr ⟨List.mem_cons_self, agn⟩
  · rcases p2 b hb with y | ⟨y, z⟩
    · rcases q2 b y with x | ⟨x, m⟩
      · exact .inl x
      · exact .inr ⟨List.mem_cons_of_mem _ (h3 b x), m⟩
    · exact .inr ⟨List.mem_cons_of_mem _ y, fun x => z (w3 b x)⟩
theorem OTR.zip (le : Same F H) (hv : VarsOk σ e) : ∀ {ss : List Wy} {v : V} {t u : OT} {fp : List Addr}, OTR K mg H F v t fp → nav e t ss = some u → ∃ v' g, Zip K mg σ H F v fp e t ss u v' g
  | [], v, t, u, fp, o, hn => by
    cases hn
    refine ⟨v, fp, .nil, o, fun _ h => h, fun H' F' u' t' g' f hf hs _ _ o' _ => ⟨g', ?_, fun a ha => .inl ha⟩⟩
    rw [setAt_nil, hf] at hs
    cases hs; exact o'
  | s :: ss, v, t, u, fp, o, hn => by
    have hn0 : ((s.child e t).bind fun u => nav e u ss) = some u := hn
    clear hn
    cases hc : s.child e t with
    | none => rw [hc] at hn0; cases hn0
    | some c =>
      rw [hc] at hn0
      have hnn : nav e c ss = some u := hn0
      clear hn0
      cases o with
      | fz d =>
        obtain ⟨v1, d1, rfl, s1, r1⟩ := d.step le hv hc
        obtain ⟨v2, d2, rfl, s2, r2⟩ := DR.walk le hv r1 hnn
        refine ⟨v2, [], .cons s1 s2, .fz r2, fun _ h => (nomatch h), fun H' F' u' t' g' f hf hs => ?_⟩
        rw [setAt_fz] at hs; cases hs
      | dK ha r =>
        cases s with
        | c i => cases hc
        | v j => simp only [Wy.child] at hc; split at hc <;> cases hc
        | f cs x => cases hc
      | dN ha r =>
        cases s with
        | c i => cases hc
        | v j => simp only [Wy.child] at hc; split at hc <;> cases hc
        | f cs x => cases hc
      | lst ha hz r n =>
        rename_i a vs ts fp0
        cases s with
        | c i =>
          have hc : getI ts i = some c := hc
          obtain ⟨k, h2, h3⟩ := getI_plc hc
          refine zip_list ha hz r n h3 (fun v1 h1 => .c (.inl (SqL.of ha)) (by rw [r.len]; exact h2) h1) (fun f => ?_) (fun o => OTR.zip le hv o hnn)
          show ((plc ts.length i).bind fun n => (ts[n]?).bind fun c => (setAt e f c ss).map fun c' => OT.lst (ts.set n c')) = _
          rw [h2, Option.bind_some, h3, Option.bind_some]
        | v j =>
          cases hj : e.at j with
          | none => simp [Wy.child, hj] at hc
          | some t =>
            cases t <;> first | (simp [Wy.child, hj] at hc; done) | skip
            rename_i dj
            cases dj <;> first | (simp [Wy.child, hj] at hc; done) | skip
            rename_i i
            have hc : getI ts i = some c := by simpa [Wy.child, hj] using hc
            obtain ⟨k, h2, h3⟩ := getI_plc hc
            refine zip_list ha hz r n h3 (fun v1 h1 => .v (hv _ _ hj) (.inl (SqL.of ha)) (by rw [r.len]; exact h2) h1) (fun f => ?_) (fun o => OTR.zip le hv o hnn)
            show (match e.at j with
              | some (.fz (.int i)) => (plc ts.length i).bind fun n => (ts[n]?).bind fun c => (setAt e f c ss).map fun c' => OT.lst (ts.set n c')
              | _ => none) = _
            rw [hj]
            show ((plc ts.length i).bind fun n => (ts[n]?).bind fun c => (setAt e f c ss).map fun c' => OT.lst (ts.set n c')) = _
            rw [h2, Option.bind_some, h3, Option.bind_some]
        | f cs x => cases hc
      | ins ha m r n =>
        rename_i a C dx c0 fs ts fp0
        cases s with
        | c i => cases hc
        | v j => simp only [Wy.child] at hc; split at hc <;> cases hc
        | f cs x =>
          have hc : (if c0 ∈ cs then ts.lookup x else none) = some c := hc
          by_cases hm : c0 ∈ cs
          · rw [if_pos hm] at hc
            obtain ⟨v1, g1, h1, h2, h3, h4⟩ := r.child hc
            obtain ⟨v', g, w1, w2, w3, w4⟩ := OTR.zip le hv h2 hnn
            refine ⟨v', g, .cons (.f ha hm m h1) w1, w2, fun b hb => List.mem_cons_of_mem _ (h3 b (w3 b hb)), fun H' F' u' t' g' f hf hs sm k o' d => ?_⟩
            have hs : (if c0 ∈ cs then (ts.lookup x).bind fun c1 => (setAt e f c1 ss).map fun c' => OT.ins c0 (putA x c' ts) else none) = some t' := hs
            rw [if_pos hm, hc, Option.bind_some] at hs
            obtain ⟨c', hc', rfl⟩ := Option.map_eq_some_iff.mp hs
            obtain ⟨fp1, q1, q2⟩ := w4 H' F' u' c' g' f hf hc' sm (fun b hb hn => k b (List.mem_cons_of_mem _ (h3 b hb)) hn) o' (fun b hb => (d b hb).imp id fun z y => z (List.mem_cons_of_mem _ (h3 b y)))
            obtain ⟨fp2, p1, p2⟩ := h4 H' F' c' fp1 sm (fun b hb hn => k b (List.mem_cons_of_mem _ hb) fun z => hn (w3 b z)) q1 (fun b hb => by
              rcases q2 b hb with y | ⟨y, _⟩
              · rcases d b y with z | z
                · exact .inl (w3 b z)
                · exact .inr fun x => z (List.mem_cons_of_mem _ x)
              · exact .inl y)
            have agn : a ∉ g := fun z => n (h3 a (w3 a z))
            have afp2 : a ∉ fp2 := fun z => by
              rcases p2 a z with y | ⟨y, _⟩
              · rcases q2 a y with x | ⟨x, _⟩
                · rcases d a x with m | m
                  · exact agn m
                  · exact m List.mem_cons_self
                · exact n (h3 a x)
              · exact n y
            refine ⟨a :: fp2, .ins (k a List.mem_cons_self agn _ ha) m p1 afp2, fun b hb => ?_⟩
            rcases List.mem_cons.mp hb with rfl | hb
            · exact .inr ⟨List.mem_cons_self, agn⟩
            · rcases p2 b hb with y | ⟨y, z⟩
              · rcases q2 b y with x | ⟨x, m⟩
                · exact .inl x
                · exact .inr ⟨List.mem_cons_of_mem _ (h3 b x), m⟩
              · exact .inr ⟨List.mem_cons_of_mem _ y, fun x => z (w3 b x)⟩
          · rw [if_neg hm] at hc; cases hc
termination_by ss => ss.length
end
end Rx
end

section
/-! Rx, part 23: paths: read, their length, appended to, an item set; a number added to an attribute; methods of own classes. -/
namespace Rx
open PySem PySem.Spec PyProof.Rows L2
variable [Prw]
section
variable {K : PySem.W.Frag} {mg : Str → Option Value} {W : WX} {σ : L2.St} {H F H1 F1 H2 : Hp} {fp fpe fpv : List Addr} {e e1 : Ev}
theorem setAt_nav : ∀ {ss : List Wy} {t t' : OT} {f : OT → Option OT}, setAt e f t ss = some t' → ∃ u u', nav e t ss = some u ∧ f u = some u'
  | [], t, t', f, h => by rw [setAt_nil] at h; exact ⟨t, t', rfl, h⟩
  | s :: ss, t, t', f, h => by
    have list : ∀ {ts : List OT} {i : Int}, ((plc ts.length i).bind fun n => (ts[n]?).bind fun c => (setAt e f c ss).map fun c' => OT.lst (ts.set n c')) = some t' → ∃ c, getI ts i = some c ∧ ∃ u u', nav e c ss = some u ∧ f u = some u' := fun {ts i} h => by
      obtain ⟨n, h1, h⟩ := Option.bind_eq_some_iff.mp h
      obtain ⟨c, h2, h⟩ := Option.bind_eq_some_iff.mp h
      obtain ⟨c', h3, _⟩ := Option.map_eq_some_iff.mp h
      exact ⟨c, by unfold getI; rw [h1]; exact h2, setAt_nav h3⟩
    cases s with
    | c i =>
      cases t <;> first | (cases h; done) | skip
      obtain ⟨c, h1, u, u', h2, h3⟩ := list h
      exact ⟨u, u', by show ((getI _ i).bind fun u => nav e u ss) = _; rw [h1]; exact h2, h3⟩
    | v j =>
      cases t <;> first | (cases h; done) | skip
      rename_i ts
      cases hj : e.at j with
      | none => simp [hj] at h
      | some tj =>
        cases tj <;> first | (simp [hj] at h; done) | skip
        rename_i dj
        cases dj <;> first | (simp [hj] at h; done) | skip
        rename_i i
        have h : ((plc ts.length i).bind fun n => (ts[n]?).bind fun c => (setAt e f c ss).map fun c' => OT.lst (ts.set n c')) = some t' := by
          have h : (match e.at j with
            | some (.fz (.int i)) => (plc ts.length i).bind fun n => (ts[n]?).bind fun c => (setAt e f c ss).map fun c' => OT.lst (ts.set n c')
            | _ => none) = some t' := h
          rw [hj] at h; exact h
        obtain ⟨c, h1, u, u', h2, h3⟩ := list h
        refine ⟨u, u', ?_, h3⟩
        have : Wy.child e (.lst ts) (.v j) = getI ts i := by simp only [Wy.child, hj]
        show ((Wy.child e (.lst ts) (.v j)).bind fun u => nav e u ss) = _
        rw [this, h1]; exact h2
    | f cs x =>
      cases t <;> first | (cases h; done) | skip
      rename_i c fs
      have h : (if c ∈ cs then (fs.lookup x).bind fun c1 => (setAt e f c1 ss).map fun c' => OT.ins c (putA x c' fs) else none) = some t' := h
      by_cases hm : c ∈ cs
      · rw [if_pos hm] at h
        obtain ⟨c1, h1, h⟩ := Option.bind_eq_some_iff.mp h
        obtain ⟨c', h2, _⟩ := Option.map_eq_some_iff.mp h
        obtain ⟨u, u', h3, h4⟩ := setAt_nav h2
        refine ⟨u, u', ?_, h4⟩
        show ((if c ∈ cs then fs.lookup x else none).bind fun u => nav e u ss) = _
        rw [if_pos hm, h1]; exact h3
      · rw [if_neg hm] at h; cases h
theorem Stp.wrs {L g : List Addr} (hs : ∀ a ∈ g, a ∈ L) (h : ∀ b, b ∉ g → ∀ o, H b = some o → H2 b = some o) : Stp H F L H2 F L :=
  ⟨fun _ _ e => e, fun a u e n => h a (fun z => n (hs a z)) u e, fun a u e => .inl (by rw [e]; simp), fun _ q => .inl q⟩
theorem put_path {j : Nat} {t0 t' u u' : OT} {v0 v' : V} {g0 g g' : List Addr} {ss : List Wy} {f : OT → Option OT} (z : Zip K mg σ H F v0 g0 e t0 ss u v' g) (le : Same F1 H1) (fF : Same F F1) (kA : ∀ a ∈ g0, ∀ o, H a = some o → H1 a = some o) (kB : ∀ a ∈ g0, F1 a = none)
    (env : EvR K mg H1 F1 σ e1 fpe) (oe : ∀ a ∈ fpe, F1 a = none) (ov : ∀ a ∈ fpv, F1 a = none) (d1 : ∀ a ∈ g0, a ∉ fpv ++ fpe) (d2 : ∀ a ∈ fpv, a ∉ fpe) (k1 : σ[j]? = some (some v0)) (hH2 : ∀ b, b ∉ g → ∀ o, H1 b = some o → H2 b = some o)
    (child : OTR K mg H2 F1 v' u' g') (hg' : ∀ b ∈ g', b ∈ g ∨ b ∈ fpv) (hf : f u = some u') (hset : setAt e f t0 ss = some t') : ∃ fp2, SS K mg H2 F1 σ (e1.set j (some t')) fp2 ∧ ∀ b ∈ fp2, b ∈ g0 ∨ b ∈ fpv ∨ b ∈ fpe := by
  obtain ⟨w1, w2, w3, w4⟩ := z
  obtain ⟨fp', q1, q2⟩ := w4 H2 F1 u' t' g' f hf hset fF (fun b hb hn o h => hH2 b hn o (kA b hb o h)) child fun b hb => (hg' b hb).imp id fun z y => d1 b y (List.mem_append_left _ z)
  have sub : ∀ b ∈ fp', b ∈ g0 ∨ b ∈ fpv := fun b hb => by
    rcases q2 b hb with y | ⟨y, _⟩
    · exact (hg' b y).imp (w3 b) id
    · exact .inl y
  have ge : ∀ b ∈ fpe, b ∉ g := fun b hb z => d1 b (w3 b z) (List.mem_append_right _ hb)
  obtain ⟨fp2, p1, p2⟩ := (env.keep (H' := H2) (Same.refl _) fun b hb o h => hH2 b (ge b hb) o h).put k1 q1 fun b hb z => by
    rcases sub b hb with y | y
    · exact d1 b y (List.mem_append_right _ z)
    · exact d2 b y z
  have sub2 : ∀ b ∈ fp2, b ∈ g0 ∨ b ∈ fpv ∨ b ∈ fpe := fun b hb => by
    rcases p2 b hb with y | y
    · exact (sub b y).imp id .inl
    · exact .inr (.inr y)
  refine ⟨fp2, ⟨fun b o h => hH2 b (fun z => ?_) o (le b o h), p1, fun b hb => ?_⟩, sub2⟩
  · rw [kB b (w3 b z)] at h; cases h
  · rcases sub2 b hb with y | y | y
    · exact kB b y
    · exact ov b y
    · exact oe b y
theorem atI_plc {α : Type} {xs : List α} {i : Int} {k : Nat} {v : α} (hp : plc xs.length i = some k) (hv : xs[k]? = some v) : atI xs i = some v := by
  unfold atI; rw [(plc_ixN hp).1]; exact hv
end
section
variable {X : Cx} {W : WX} {k j : Nat} {P : Nat → Bool} {pos p p2 p3 apos cpos : Pos} {a b c e o value : Expr} {es : List Expr} {ss ss' : List Wy} {x : IE} {xs : List IE} {ta : TE} {t : TA}
def tPath (K : PySem.W.Frag) (mg : Str → Option Value) (j : Nat) (ss : List Wy) : TE := fun σ H Q => ∃ v v', σ[j]? = some (some v) ∧ WalkV K mg σ H v ss v' ∧ Q v' H
abbrev JP (X : Cx) (j : Nat) (ss : List Wy) (e : Expr) : Prop := PE X e (tPath X.K X.mg j ss)
theorem p_nil (h : PE X e (tVar j)) : JP X j [] e := PE.imp h fun σ H Q ⟨v, v', h1, h2, q⟩ => by cases h2; exact ⟨v, h1, q⟩
theorem ix_both : IxR X (fun x y H Q => rIxL X.K x y H Q ∨ rIxT X.K x y H Q) := fun value slice pins s σ H x y v u Q I rx ry h hs =>
  h.elim (fun h => ix_list value slice pins s σ H x y v u Q I rx ry h hs) fun h => ix_tup value slice pins s σ H x y v u Q I rx ry h hs
theorem p_c {i : Int} {n : Nat} (h : JP X j ss a) (he : ss' = ss ++ [.c i] := by rfl) (hs : PlainIx (.Constant (.int i) n p) := by exact fun _ _ => rfl) : JP X j ss' (.Subscript a (.Constant (.int i) n p) pos) := PE.imp (pe_ix ix_both h pe_int hs) fun σ H Q ⟨v, v', h1, h2, q⟩ => by
  subst he
  obtain ⟨v1, w1, s1⟩ := h2.last
  refine ⟨v, v1, h1, w1, ?_⟩
  cases s1 with
  | c hq hp hv => exact hq.elim (fun hq => .inl ⟨_, _, i, _, rfl, rfl, hq, atI_plc hp hv, q⟩) fun hq => .inr ⟨_, _, i, _, rfl, rfl, hq, atI_plc hp hv, q⟩
theorem p_v {i : Nat} {e2 : Expr} (h : JP X j ss a) (hi : PE X e2 (tVar i)) (he : ss' = ss ++ [.v i] := by rfl) (hs : PlainIx e2 := by exact fun _ _ => rfl) : JP X j ss' (.Subscript a e2 pos) := PE.imp (pe_ix ix_both h hi hs) fun σ H Q ⟨v, v', h1, h2, q⟩ => by
  subst he
  obtain ⟨v1, w1, s1⟩ := h2.last
  refine ⟨v, v1, h1, w1, ?_⟩
  cases s1 with
  | v hx hq hp hv => exact ⟨_, hx, hq.elim (fun hq => .inl ⟨_, _, _, _, rfl, rfl, hq, atI_plc hp hv, q⟩) fun hq => .inr ⟨_, _, _, _, rfl, rfl, hq, atI_plc hp hv, q⟩⟩
theorem p_f {cs : List Str} {f : Str} (hc : ∀ c ∈ cs, HasC X.K X.mg c [f]) (h : JP X j ss a) (he : ss' = ss ++ [.f cs f] := by rfl) (hb : attributeBase a f X.env (eval a X.env) = eval a X.env := by rfl) : JP X j ss' (.Attribute a f pos) := PE.imp (pe_fld h hb) fun σ H Q ⟨v, v', h1, h2, q⟩ => by
  subst he
  obtain ⟨v1, w1, s1⟩ := h2.last
  refine ⟨v, v1, h1, w1, ?_⟩
  cases s1 with
  | f ha hm hmg hv =>
    obtain ⟨C, hC, cl, no⟩ := (hc _ hm).ex
    have hC2 := hC.symm.trans hmg
    cases hC2
    exact ⟨_, _, _, _, _, rfl, ha, cl, no f (List.mem_singleton.mpr rfl), hv, q⟩
/-- data at a path -/
theorem e_pth (h : JP X j ss e) : JE X W (.pth j ss) e := by
  refine PE.imp h fun σ H Q q => ?_
  obtain ⟨F, en, fp, s, q⟩ := q
  have q : WP X.K X.mg W σ H F fp ((M.get j en).bind fun t e1 => (match nav e1 t ss with
    | some (.fz d) => .ok (.fz d) e1
    | _ => .bad)) (FinV X.K X.mg H F fp σ Q) := q
  cases hj : en.at j with
  | none => simp only [M.get, hj] at q; exact q.elim
  | some t =>
    simp only [M.get, hj, R.bind] at q
    cases hn : nav en t ss with
    | none => rw [hn] at q; exact q.elim
    | some u =>
      rw [hn] at q
      cases u <;> first | exact q.elim | skip
      obtain ⟨v, g, rest, h1, h2, h3, h4, h5⟩ := s.env.take hj
      obtain ⟨v', g', w1, w2, w3, w4⟩ := h2.zip s.le s.vars hn
      cases w2 with
      | fz d => exact ⟨v, v', h1, w1, q v' H F fp [] ⟨Stp.refl, s, .fz d, nm, nm⟩⟩
/-- len of a list at a path -/
theorem e_lnp (hm : X.mg "len" = none) (h : JP X j ss e) (hg : Gl X "len" := by rfl) (he : starEach [e] X.env = (false, eval e X.env) :: starEach [] X.env := by rfl) (hpl : (backTo pos (starEach [] X.env)).any (·.1) = false := by rfl) : JE X W (.lnp j ss) (.Call (.Name "len" p) [e] [] pos) := by
  refine PE.imp (pe_callB call_len_seq hg hm (by rfl) (pa_cons h pa_nil he) (by decide) (by decide) he hpl) fun σ H Q q => ?_
  obtain ⟨F, en, fp, s, q⟩ := q
  have q : WP X.K X.mg W σ H F fp ((M.get j en).bind fun t e1 => (match nav e1 t ss with
    | some (.lst ts) => .ok (.fz (intD ts.length)) e1
    | _ => .bad)) (FinV X.K X.mg H F fp σ Q) := q
  cases hj : en.at j with
  | none => simp only [M.get, hj] at q; exact q.elim
  | some t =>
    simp only [M.get, hj, R.bind] at q
    cases hn : nav en t ss with
    | none => rw [hn] at q; exact q.elim
    | some u =>
      rw [hn] at q
      cases u <;> first | exact q.elim | skip
      obtain ⟨v, g, rest, h1, h2, h3, h4, h5⟩ := s.env.take hj
      obtain ⟨v', g', w1, w2, w3, w4⟩ := h2.zip s.le s.vars hn
      cases w2 with
      | lst hl hz r n =>
        refine ⟨v, _, h1, w1, _, _, rfl, .inl (SqL.of hl), ?_⟩
        have := q (.int _) H F fp [] ⟨Stp.refl, s, .fz (.int _), nm, nm⟩
        rw [r.len]
        exact this
/-- x[path].append(e) -/
theorem s_apq (j : Nat) (ss : List Wy) {y : IE} (ho : JP X j ss o) (he : JE X W y e)
    (hs : swapsWith (.Call (.Attribute o "append" apos) [e] [] cpos) none pos.line X.env = pure false := by rfl)
    (hbase : attributeBase o "append" X.env (eval o X.env) = eval o X.env := by rfl)
    (hline : (apos.endLine == cpos.line) = true := by rfl) (hst : starEach [e] X.env = (false, eval e X.env) :: starEach [] X.env := by rfl)
    (hfew : ((backTo cpos (starEach [e] X.env)).all (fun x => !x.1) && (backToKw cpos (keywordEach [] X.env)).all (fun x => x.1.isSome)
      && decide ([e].length + ([] : List Keyword).length + (if ([] : List Keyword).isEmpty then 0 else 1) < 30)) = true := by rfl) : JS X W P (.apq j ss y) (.Expr (.Call (.Attribute o "append" apos) [e] [] cpos) pos) := by
  refine PS.imp (ps_expr (pe_bm PySem.F.plainAttrs_list PySem.F.slot_list_append PySem.F.type_list_append mt_append ho (pa_cons he pa_nil hst) hbase hfew hline hst) hs) fun D σ H h => ?_
  obtain ⟨F, en, fp, s, h⟩ := h
  have h : WS X.K X.mg W P D H F fp σ (match en.at j with
    | some t0 => (match nav en t0 ss with
      | some (.lst _) => ((sem y).1 (en.set j none)).st fun t e1 => (match setAt en (appO t) t0 ss with
        | some t' => .nx (e1.set j (some t'))
        | none => .bad)
      | _ => .bad)
    | none => .bad) := h
  cases hj : en.at j with
  | none => rw [hj] at h; exact h.elim
  | some t0 =>
    rw [hj] at h
    have h : WS X.K X.mg W P D H F fp σ (match nav en t0 ss with
      | some (.lst _) => ((sem y).1 (en.set j none)).st fun t e1 => (match setAt en (appO t) t0 ss with
        | some t' => .nx (e1.set j (some t'))
        | none => .bad)
      | _ => .bad) := h
    cases hn : nav en t0 ss with
    | none => rw [hn] at h; exact h.elim
    | some u =>
      rw [hn] at h
      cases u <;> first | exact h.elim | skip
      rename_i ts
      have h : WS X.K X.mg W P D H F fp σ (((sem y).1 (en.set j none)).st fun t e1 => (match setAt en (appO t) t0 ss with
        | some t' => .nx (e1.set j (some t'))
        | none => .bad)) := h
      obtain ⟨v0, g0, rest, k1, k2, k3, k4, k5⟩ := s.env.take hj
      obtain ⟨v', g, z⟩ := k2.zip s.le s.vars hn
      obtain ⟨w1, w2, w3, w4⟩ := z
      cases w2 with
      | lst hl hz r n =>
        rename_i a vs gt
        have s0 : SS X.K X.mg H F σ (en.set j none) rest := ⟨s.le, k3, fun b hb => s.own b ((k4 b).mpr (.inr hb))⟩
        refine ⟨v0, .ref a, k1, w1, tyL hl, tD_st (H0 := H) (F0 := F) (fp0 := fp) (Stp.refl.sub fun b hb => (k4 b).mpr (.inr hb)) Pr.refl s0 h fun v t H1 F1 fpe fpv e1 p h1 => ?_⟩
        obtain ⟨kA, kB, kC⟩ := p.st.held (gp := g0) k2.there k5 fun b hb => s.own b ((k4 b).mpr (.inl hb))
        cases hset : setAt en (appO t) t0 ss with
        | none => rw [hset] at h1; exact h1.elim
        | some t' =>
          rw [hset] at h1
          obtain ⟨u2, u', n1, n2⟩ := setAt_nav hset
          rw [hn] at n1
          cases n1
          have ag : a ∈ g0 := w3 a List.mem_cons_self
          have n2' : (if ts.length < sizeMax then some (OT.lst (ts ++ [t])) else none) = some u' := n2
          by_cases hlt : ts.length < sizeMax
          · rw [if_pos hlt] at n2'
            cases n2'
            have hlen := r.len
            rw [sizeMax_eq] at hlt
            refine ⟨a, vs, v, rfl, rfl, kA a ag _ hl, by omega, ?_⟩
            have hgt : ∀ b ∈ gt, b ∈ g0 := fun b hb => w3 b (List.mem_cons_of_mem _ hb)
            have afpv : a ∉ fpv := fun z => kC a ag (List.mem_append_left _ z)
            have child : OTR X.K X.mg (upd H1 a (.lst (vs ++ [v]))) F1 (.ref a) (.lst (ts ++ [t])) (a :: (gt ++ fpv)) := by
              refine .lst upd_same (by rw [List.length_append]; show vs.length + 1 ≤ _; omega) ?_ fun z => ?_
              · refine OTRs.snoc (r.keep p.st.fz fun b hb o h => ?_) (p.val.keep (Same.refl _) fun b hb o h => ?_) fun b hb z => kC b (hgt b z) (List.mem_append_left _ hb)
                · rw [upd_ne (fun z => n (by rw [← z]; exact hb))]; exact kA b (hgt b hb) o h
                · rw [upd_ne (fun z => afpv (by rw [← z]; exact hb))]; exact h
              · rcases List.mem_append.mp z with y | y
                · exact n y
                · exact afpv y
            obtain ⟨fp2, q1, q2⟩ := put_path (e1 := e1) ⟨w1, .lst hl hz r n, w3, w4⟩ p.ss.le p.st.fz kA kB p.ss.env p.ss.own p.own kC p.dis k1 (H2 := upd H1 a (.lst (vs ++ [v]))) (fun b hb o h => by
              rw [upd_ne (fun z => hb (by rw [z]; exact List.mem_cons_self))]; exact h) child (fun b hb => by
              rcases List.mem_cons.mp hb with rfl | hb
              · exact .inl List.mem_cons_self
              · exact (List.mem_append.mp hb).imp (fun z => List.mem_cons_of_mem _ z) id) n2 hset
            refine h1 σ _ F1 fp2 ?_ q1 Pr.refl
            have st1 : Stp H F fp H1 F1 (g0 ++ (fpv ++ fpe)) := (Stp.refl.sub fun b hb => by
              rcases List.mem_append.mp hb with y | y
              · exact (k4 b).mpr (.inl y)
              · exact (k4 b).mpr (.inr y) : Stp H F fp H F (g0 ++ rest)).trans p.st.frameL
            refine (st1.trans (Stp.wrs (g := [a]) (fun b hb => by
              have : b = a := by simpa using hb
              rw [this]; exact List.mem_append_left _ ag) fun b hb o h => by
              rw [upd_ne (fun z => hb (by rw [z]; exact List.mem_cons_self))]; exact h)).sub fun b hb => ?_
            rcases q2 b hb with y | y | y
            · exact List.mem_append_left _ y
            · exact List.mem_append_right _ (List.mem_append_left _ y)
            · exact List.mem_append_right _ (List.mem_append_right _ y)
          · rw [if_neg hlt] at n2'; cases n2'
end
end Rx
end

section
/-! Rx, part 24: an item at a path set; a number added to an attribute; methods of own classes. -/
namespace Rx
open PySem PySem.Spec PyProof.Rows L2
variable [Prw]
/-- a method m of the class c that keeps the promise f -/
structure HasMd (P : Program) (w : World) (K : PySem.W.Frag) (mg : Str → Option Value) (base : Heap) (k : Nat) (c m : Str) (ms : List Bool) (f : Fn) : Prop where
  ex : ∃ (C fa : Addr) (fd : FuncData) (ps : List Str), FnOk P w K mg base (L2.CX P w) k fa fd ps (spF K mg (true :: ms) f) ∧ mg c = some (.ref C) ∧ Cls K C ∧ Meth K C m fa ∧ Binds K fd ps []
theorem HasMd.mono {P : Program} {w : World} {K : PySem.W.Frag} {mg : Str → Option Value} {base : Heap} {j k : Nat} {c m : Str} {ms : List Bool} {f : Fn} (h : HasMd P w K mg base j c m ms f) (hk : j ≤ k) : HasMd P w K mg base k c m ms f := by
  obtain ⟨C, fa, fd, ps, F, r⟩ := h.ex
  exact ⟨C, fa, fd, ps, F.mono hk, r⟩
section
variable {K : PySem.W.Frag} {mg : Str → Option Value} {H F : Hp}
theorem OTRf.lookup_none : ∀ {vs : List (Str × V)} {ts : List (Str × OT)} {fp : List Addr} {x : Str}, OTRf K mg H F vs ts fp → ts.lookup x = none → vs.lookup x = none
  | _, _, _, _, .nil, _ => rfl
  | _, _, _, x, .cons (f := f) o r n, h => by
    rw [List.lookup_cons] at h ⊢
    cases e : x == f with
    | true => rw [e] at h; cases h
    | false => rw [e] at h; exact OTRf.lookup_none r h
end
section
variable {X : Cx} {W : WX} {k j : Nat} {P : Nat → Bool} {pos pos' p p2 p3 apos cpos : Pos} {a b c e o value : Expr} {es : List Expr} {ss : List Wy} {x : IE} {xs : List IE} {ta te ti : TE} {t : TA} {st : Stmt}
/-- x[path][i] = e -/
theorem ps_stp {w : Wy} {y : IE} (hs : PS X st (tAsg te (gSub (tPath X.K X.mg j ss) ti rSetL))) (hte : ∀ σ H Q, tDX X W (sem y).1 σ H Q → te σ H Q)
    (hti : ∀ (σ : L2.St) (e : Ev) (t : OT) (ts : List OT) (u' : OT), VarsOk σ e → stpO e w t (.lst ts) = some u' → ∃ i n, plc ts.length i = some n ∧ u' = .lst (ts.set n t) ∧ ∀ H Q, Q (.int i) H → ti σ H Q) : JS X W P (.stp j ss w y) st := by
  refine PS.imp hs fun D σ H h => ?_
  obtain ⟨F, en, fp, s, h⟩ := h
  have h : WS X.K X.mg W P D H F fp σ (((sem y).1 en).st fun t e1 => ofO (updAt j ss (stpO e1 w t) e1)) := h
  refine hte σ H _ (tD_st Stp.refl Pr.refl s h fun v t H1 F1 fpe fpv e1 p h1 => ?_)
  cases hj : e1.at j with
  | none => simp only [updAt, hj] at h1; exact h1.elim
  | some t0 =>
    simp only [updAt, hj] at h1
    cases hset : setAt e1 (stpO e1 w t) t0 ss with
    | none => rw [hset] at h1; exact h1.elim
    | some t' =>
      rw [hset] at h1
      have h1 : WS X.K X.mg W P D H F fp σ (.nx (e1.set j (some t'))) := h1
      obtain ⟨u, u', n1, n2⟩ := setAt_nav hset
      cases u <;> first | (cases n2; done) | skip
      rename_i ts
      obtain ⟨i, n, n3, rfl, n4⟩ := hti σ e1 t ts u' p.ss.vars n2
      obtain ⟨v0, g0, rest, k1, k2, k3, k4, k5⟩ := p.ss.env.take hj
      obtain ⟨v', g, z⟩ := k2.zip p.ss.le p.ss.vars n1
      obtain ⟨w1, w2, w3, w4⟩ := z
      cases w2 with
      | lst hl hz r nn =>
        rename_i a vs gt
        have g0e : ∀ b ∈ g0, b ∈ fpe := fun b hb => (k4 b).mpr (.inl hb)
        have ag : a ∈ g0 := w3 a List.mem_cons_self
        have afpv : a ∉ fpv := fun z => p.dis a z (g0e a ag)
        refine ⟨v0, .ref a, k1, w1, n4 _ _ ?_⟩
        have hlen := r.len
        refine ⟨a, vs, i, n, rfl, rfl, hl, by rw [hlen]; exact (plc_ixN n3).1, ?_⟩
        have up : ∀ {g' : List Addr}, a ∉ g' → ∀ b ∈ g', ∀ o, H1 b = some o → upd H1 a (.lst (vs.set n v)) b = some o := fun {g'} hg b hb o h => by
          rw [upd_ne (fun z => hg (by rw [← z]; exact hb))]; exact h
        obtain ⟨gt', c1, c2⟩ := OTRs.set n (r.keep (H' := upd H1 a (.lst (vs.set n v))) (Same.refl _) (up nn)) (p.val.keep (Same.refl _) (up afpv)) fun b hb z => p.dis b hb (g0e b (w3 b (List.mem_cons_of_mem _ z)))
        have agt' : a ∉ gt' := fun z => (c2 a z).elim afpv nn
        have child : OTR X.K X.mg (upd H1 a (.lst (vs.set n v))) F1 (.ref a) (.lst (ts.set n t)) (a :: gt') := .lst upd_same (by rw [List.length_set]; exact hz) c1 agt'
        obtain ⟨fp2, q1, q2⟩ := put_path (e1 := e1.set j none) (fpv := fpv) ⟨w1, .lst hl hz r nn, w3, w4⟩ p.ss.le (Same.refl _) (fun _ _ _ h => h) (fun b hb => p.ss.own b (g0e b hb)) k3 (fun b hb => p.ss.own b ((k4 b).mpr (.inr hb))) p.own (fun b hb z => by
          rcases List.mem_append.mp z with y | y
          · exact p.dis b y (g0e b hb)
          · exact k5 b hb y) (fun b hb z => p.dis b hb ((k4 b).mpr (.inr z))) k1 (H2 := upd H1 a (.lst (vs.set n v))) (fun b hb o h => by
          rw [upd_ne (fun z => hb (by rw [z]; exact List.mem_cons_self))]; exact h) child (fun b hb => by
          rcases List.mem_cons.mp hb with rfl | hb
          · exact .inl List.mem_cons_self
          · exact (c2 b hb).symm.imp (fun z => List.mem_cons_of_mem _ z) id) n2 hset
        rw [List.set_set] at q1
        refine h1 σ _ F1 fp2 ((p.st.trans (Stp.wrs (g := [a]) (fun b hb => by
          have : b = a := by simpa using hb
          rw [this]; exact List.mem_append_right _ (g0e a ag)) fun b hb o h => by
          rw [upd_ne (fun z => hb (by rw [z]; exact List.mem_cons_self))]; exact h)).sub fun b hb => ?_) q1 Pr.refl
        rcases q2 b hb with y | y | y
        · exact List.mem_append_right _ (g0e b y)
        · exact List.mem_append_left _ y
        · exact List.mem_append_right _ ((k4 b).mpr (.inr y))
theorem s_stpC (j : Nat) (ss : List Wy) {i : Int} {n : Nat} {y : IE} (ho : JP X j ss o) (he : JE X W y e)
    (ha : ∀ v, assign (.Subscript o (.Constant (.int i) n p2) p3) X.env v = (do
      let ov ← holding [v] (eval o X.env)
      let iv ← holding [v, ov] (eval (.Constant (.int i) n p2) X.env)
      standAt p3
      holding [v, ov, iv] (setItem ov iv v)
      release [v, ov, iv] []) := by intro _; rfl)
    (hs : swapsWithSole [.Subscript o (.Constant (.int i) n p2) p3] e pos.line X.env = pure false := by rfl) (hw : swappedStores [.Subscript o (.Constant (.int i) n p2) p3] e X.env = pure none := by rfl)
    (h1 : (assignEach [.Subscript o (.Constant (.int i) n p2) p3] X.env).map (·.2) = [assign (.Subscript o (.Constant (.int i) n p2) p3) X.env] := by rfl) : JS X W P (.stp j ss (.c i) y) (.Assign [.Subscript o (.Constant (.int i) n p2) p3] e pos) :=
  ps_stp (ti := tC (.int i)) (ps_asg he (pg_sub ho pe_int set_list ha) hs hw h1) (fun _ _ _ h => h) fun σ e t ts u' hv h => by
    have h : (plc ts.length i).map (fun n => OT.lst (ts.set n t)) = some u' := h
    obtain ⟨n, h1, rfl⟩ := Option.map_eq_some_iff.mp h
    exact ⟨i, n, h1, rfl, fun H Q q => q⟩
theorem s_stpV (j : Nat) (ss : List Wy) {i : Nat} {z : Str} {y : IE} (ho : JP X j ss o) (hi : PE X (.Name z p2) (tVar i)) (he : JE X W y e)
    (ha : ∀ v, assign (.Subscript o (.Name z p2) p3) X.env v = (do
      let ov ← holding [v] (eval o X.env)
      let iv ← holding [v, ov] (eval (.Name z p2) X.env)
      standAt p3
      holding [v, ov, iv] (setItem ov iv v)
      release [v, ov, iv] []) := by intro _; rfl)
    (hs : swapsWithSole [.Subscript o (.Name z p2) p3] e pos.line X.env = pure false := by rfl) (hw : swappedStores [.Subscript o (.Name z p2) p3] e X.env = pure none := by rfl)
    (h1 : (assignEach [.Subscript o (.Name z p2) p3] X.env).map (·.2) = [assign (.Subscript o (.Name z p2) p3) X.env] := by rfl) : JS X W P (.stp j ss (.v i) y) (.Assign [.Subscript o (.Name z p2) p3] e pos) :=
  ps_stp (ti := tVar i) (ps_asg he (pg_sub ho hi set_list ha) hs hw h1) (fun _ _ _ h => h) fun σ e t ts u' hv h => by
    have h : (match e.at i with
      | some (.fz (.int i)) => (plc ts.length i).map fun n => OT.lst (ts.set n t)
      | _ => none) = some u' := h
    cases hi : e.at i with
    | none => rw [hi] at h; cases h
    | some ti =>
      rw [hi] at h
      cases ti <;> first | (cases h; done) | skip
      rename_i di
      cases di <;> first | (cases h; done) | skip
      rename_i m
      have h : (plc ts.length m).map (fun n => OT.lst (ts.set n t)) = some u' := h
      obtain ⟨n, h1, rfl⟩ := Option.map_eq_some_iff.mp h
      exact ⟨m, n, h1, rfl, fun H Q q => ⟨.int m, hv _ _ hi, q⟩⟩
/-- self.f += i -/
theorem s_aga {cn f : Str} (j : Nat) {n : Str} {i : Int} {m : Nat} (h : HasC X.K X.mg cn [f]) (hN : X.N[j]? = some n := by rfl) (hvi : Vis X.env.scope n := by first | exact Or.inl rfl | exact Or.inr (Or.inl rfl) | exact Or.inr (Or.inr rfl)) (hd : (n == ("__debug__" : Str)) = false := by decide) (hcd : (n == ("__classdict__" : Str)) = false := by decide) :
    JS X W P (.aga j cn f i) (.AugAssign (.Attribute (.Name n p) f pos') .Add (.Constant (.int i) m p2) pos) := by
  refine PS.imp (ps_fldaug (pe_var hN hvi hd hcd) pe_int in_add) fun D σ H q => ?_
  obtain ⟨F, en, fp, s, q⟩ := q
  have q : WS X.K X.mg W P D H F fp σ (ofO (updAt j [] (agaO cn f i) en)) := q
  cases hu : updAt j [] (agaO cn f i) en with
  | none => rw [hu] at q; exact q.elim
  | some e2 =>
    rw [hu] at q
    obtain ⟨t0, t1, hj, hst, rfl⟩ := updAt_nil hu
    cases t0 <;> first | (cases hst; done) | skip
    rename_i c0 fs0
    have hst : (if c0 = cn ∧ fs0.length < 1000 then (match fs0.lookup f with
      | some (.fz (.int n)) => some (OT.ins cn (putA f (.fz (.int (n + i))) fs0))
      | _ => none) else none) = some t1 := hst
    by_cases hz : c0 = cn ∧ fs0.length < 1000
    · rw [if_pos hz] at hst
      obtain ⟨rfl, hlen⟩ := hz
      cases hl : fs0.lookup f with
      | none => rw [hl] at hst; cases hst
      | some tf =>
        rw [hl] at hst
        cases tf <;> first | (cases hst; done) | skip
        rename_i df
        cases df <;> first | (cases hst; done) | skip
        rename_i n0
        have hst : some (OT.ins c0 (putA f (.fz (.int (n0 + i))) fs0)) = some t1 := hst
        cases hst
        obtain ⟨v0, g, rest, k1, k2, k3, k4, k5⟩ := s.env.take hj
        obtain ⟨C, hC, cl, no⟩ := h.ex
        cases k2 with
        | ins m1 m2 m3 m4 =>
          rename_i a C2 dx vs0 fp0
          have hC2 := hC.symm.trans m2
          cases hC2
          obtain ⟨v1, g1, l1, l2, _⟩ := m3.child hl
          cases l2 with
          | fz dd =>
            cases dd
            refine ⟨_, k1, a, C, dx, vs0, _, rfl, m1, cl, no f (List.mem_singleton.mpr rfl), l1, n0, i, rfl, rfl, dx, vs0, m1, by rw [m3.len]; exact hlen, ?_⟩
            have aF : F a = none := s.own a ((k4 a).mpr (.inl List.mem_cons_self))
            obtain ⟨fp', n1, n2⟩ := OTRf.put (t := .fz (.int (n0 + i))) (g := []) f m3 (.fz (.int (n0 + i))) (fun b hb => nomatch hb)
            have ar : a ∉ rest := k5 a List.mem_cons_self
            have afp' : a ∉ fp' := fun z => (n2 a z).elim (fun y => nomatch y) m4
            have ku : ∀ (S : List Addr), a ∉ S → ∀ b ∈ S, ∀ o, H b = some o → upd H a (.ins C dx (putF f (.int (n0 + i)) vs0)) b = some o := fun S hS b hb o q => by
              rw [upd_ne (fun z => hS (by rw [← z]; exact hb))]; exact q
            have r2 : OTR X.K X.mg (upd H a (.ins C dx (putF f (.int (n0 + i)) vs0))) F (.ref a) (.ins c0 (putA f (.fz (.int (n0 + i))) fs0)) (a :: fp') := .ins upd_same hC (n1.keep (Same.refl _) (ku fp' afp')) afp'
            obtain ⟨fp2, s1, s2⟩ := EvR.put (k3.keep (Same.refl _) (ku rest ar)) k1 r2 fun b hb z => by
              rcases List.mem_cons.mp hb with rfl | hb
              · exact ar z
              · rcases n2 b hb with y | y
                · cases y
                · exact k5 b (List.mem_cons_of_mem _ y) z
            rw [List.set_set] at s1
            have sub : ∀ b ∈ fp2, b ∈ fp := fun b hb => by
              rcases s2 b hb with y | y
              · rcases List.mem_cons.mp y with rfl | y
                · exact (k4 _).mpr (.inl List.mem_cons_self)
                · rcases n2 b y with y | y
                  · cases y
                  · exact (k4 b).mpr (.inl (List.mem_cons_of_mem _ y))
              · exact (k4 b).mpr (.inr y)
            refine q σ _ F fp2 ((Stp.wr ((k4 a).mpr (.inl List.mem_cons_self))).sub sub) ⟨fun b o q => ?_, s1, fun b hb => s.own b (sub b hb)⟩ Pr.refl
            rw [upd_ne (fun z => by rw [z, aF] at q; cases q)]; exact s.le b o q
    · rw [if_neg hz] at hst; cases hst
/-! ### methods -/
def tMethS (C : Addr) (m : Str) (sp : Sp) (E : L2.St → XK) (ta : TE) (t : TA) : TE := fun σ H Q => ta σ H fun x H1 => ∃ a dx fs, x = .ref a ∧ H1 a = some (.ins C dx fs) ∧ fs.lookup m = none ∧
  t σ H1 fun vs H2 => sp (x :: vs) H2 Q (E σ)
theorem pe_methS {pl : Sem Bool} {C f : Addr} {m : Str} {k : Nat} {fd : FuncData} {ps : List Str} {sp : Sp} {E : L2.St → XK} (he : PE X o ta) (c : Cls X.K C) (hm : Meth X.K C m f) (F : FnOk X.prog X.w X.K X.mg X.base (L2.CX X.prog X.w) k f fd ps sp) (hr : Room k X.A) (hb : Binds X.K fd ps []) (hx : ∀ σ, PassesAt (L2.CX X.prog X.w) X σ (E σ)) (ha : PA X (e :: es) t)
    (hst : starEach (e :: es) X.env = (false, eval e X.env) :: starEach es X.env) (hpl : (backTo pos (starEach es X.env)).any (·.1) = false)
    (ht : eval (.Call (.Attribute o m apos) (e :: es) [] pos) X.env = (do
      let ov ← eval o X.env
      standAt apos.atName
      let (f, first) ← holding [ov] (getMethod ov m pl)
      callWith pos f first (backTo pos (starEach (e :: es) X.env)) (backToKw pos (keywordEach [] X.env)))) :
    PE X (.Call (.Attribute o m apos) (e :: es) [] pos) (tMethS C m sp E ta t) := by
  refine ⟨fun pins s σ H Q I h => ?_⟩
  refine PySem.W.methodCall_KW (pl := pl) (thn (he.run pins s σ H _ I h) fun u s1 ⟨x, H1, I1, rx, a, dx, fs, ex, ea, l, q⟩ => ?_) ht
  subst ex
  obtain rfl : u = Value.ref a := rx
  refine getmeth_ok I1 ea c hm l ?_
  refine PySem.W.callWith_K (first := [.ref a]) (h₀ := X.base) I.ok.mod.kin hm.kp (thn (ha.run pos pins s1 σ H1 _ I1 q) fun us s2 ⟨vs, H2, I2, r, q2⟩ => ⟨I2.kIn, ?_⟩) hst hpl
  exact run_fnS (us := .ref a :: us) (vs := .ref a :: vs) F hr hb (hx σ) I2 (.cons rfl r) q2
theorem pe_methS0 {pl : Sem Bool} {C f : Addr} {m : Str} {k : Nat} {fd : FuncData} {ps : List Str} {sp : Sp} {E : L2.St → XK} (he : PE X o ta) (c : Cls X.K C) (hm : Meth X.K C m f) (F : FnOk X.prog X.w X.K X.mg X.base (L2.CX X.prog X.w) k f fd ps sp) (hr : Room k X.A) (hb : Binds X.K fd ps []) (hx : ∀ σ, PassesAt (L2.CX X.prog X.w) X σ (E σ))
    (ht : eval (.Call (.Attribute o m apos) [] [] pos) X.env = (do
      let ov ← eval o X.env
      standAt apos.atName
      let (f, first) ← holding [ov] (getMethod ov m pl)
      callWith pos f first (backTo pos (starEach [] X.env)) (backToKw pos (keywordEach [] X.env)))) :
    PE X (.Call (.Attribute o m apos) [] [] pos) (tMethS C m sp E ta tNil) := by
  refine ⟨fun pins s σ H Q I h => ?_⟩
  refine PySem.W.methodCall_KW (pl := pl) (thn (he.run pins s σ H _ I h) fun u s1 ⟨x, H1, I1, rx, a, dx, fs, ex, ea, l, q⟩ => ?_) ht
  subst ex
  obtain rfl : u = Value.ref a := rx
  refine getmeth_ok I1 ea c hm l ?_
  exact PySem.W.callWith_K0 (first := [.ref a]) I1.kIn hm.kp (run_fnS (us := [.ref a]) (vs := [.ref a]) F hr hb (hx σ) I1 (.cons rfl .nil) q)
theorem meth_pre {cn m : Str} {j : Nat} {β : Type} {f : Ev → R β} {kk : β → Ev → Prop} {σ : L2.St} {H F : Hp} {fp : List Addr} {en : Ev} (s : SS X.K X.mg H F σ en fp) {C : Addr} (hC : X.mg cn = some (.ref C))
    (q : WP X.K X.mg W σ H F fp ((M.get j en).bind fun t e1 => (chkM cn m t e1).bind fun _ e2 => f e2) kk) : ∃ a dx fs, σ[j]? = some (some (.ref a)) ∧ H a = some (.ins C dx fs) ∧ fs.lookup m = none ∧ WP X.K X.mg W σ H F fp (f en) kk := by
  cases hj : en.at j with
  | none => simp only [M.get, hj] at q; exact q.elim
  | some t =>
    simp only [M.get, hj, R.bind] at q
    cases t <;> first | exact q.elim | skip
    rename_i c0 fs0
    have q2 : WP X.K X.mg W σ H F fp (((if c0 = cn ∧ fs0.lookup m = none then M.pure () else fun _ => .bad : M Unit) en).bind fun _ e2 => f e2) kk := q
    clear q
    by_cases hz : c0 = cn ∧ fs0.lookup m = none
    · rw [if_pos hz] at q2
      have q : WP X.K X.mg W σ H F fp (f en) kk := q2
      clear q2
      obtain ⟨rfl, hl⟩ := hz
      obtain ⟨v, g, h1, h2, _⟩ := s.env.at hj
      cases h2 with
      | ins m1 m2 m3 m4 =>
        have hC2 := hC.symm.trans m2
        cases hC2
        exact ⟨_, _, _, h1, m1, m3.lookup_none hl, q⟩
    · rw [if_neg hz] at q2; exact q2.elim
/-- x.m(..) -/
theorem e_meth {cn m n : Str} {ms : List Bool} {f : Fn} {i : Nat} {pl : Sem Bool} (j : Nat) (c : Cq X W k) (M : HasMd X.prog X.w X.K X.mg X.base i cn m ms f) (ho : PE X (.Name n p) (tVar j)) (ha : JLA X W ms xs (e :: es)) (hk : decide (i ≤ k) = true := by rfl) (hl : xs.length = ms.length := by rfl)
    (hst : starEach (e :: es) X.env = (false, eval e X.env) :: starEach es X.env := by rfl) (hpl : (backTo pos (starEach es X.env)).any (·.1) = false := by rfl)
    (ht : eval (.Call (.Attribute (.Name n p) m apos) (e :: es) [] pos) X.env = (do
      let ov ← eval (.Name n p) X.env
      standAt apos.atName
      let (f, first) ← holding [ov] (getMethod ov m pl)
      callWith pos f first (backTo pos (starEach (e :: es) X.env)) (backToKw pos (keywordEach [] X.env))) := by rfl) : JE X W (.meth cn m ms f j xs) (.Call (.Attribute (.Name n p) m apos) (e :: es) [] pos) := by
  obtain ⟨C, fa, fd, ps, Fk, hC, cl, hm, hb⟩ := M.ex
  refine PE.imp (pe_methS (E := WE W) ho cl hm Fk (c.room.mono (of_decide_eq_true hk)) hb (fun σ => passAt c.tk σ) ha hst hpl ht) fun σ H Q q => ?_
  obtain ⟨F, en, fp, s, q⟩ := q
  have q : WP X.K X.mg W σ H F fp ((Rx.M.get j en).bind fun t e1 => (chkM cn m t e1).bind fun _ e2 => (evArgs ms xs e2).bind fun as e3 => callF f ((none, some j) :: as) e3) (FinV X.K X.mg H F fp σ Q) := q
  obtain ⟨a, dx, fs, h1, h2, h3, q⟩ := meth_pre s hC q
  refine ⟨.ref a, h1, a, dx, fs, rfl, h2, h3, F, en, fp, s, ?_⟩
  cases hm2 : evArgs ms xs en with
  | bad => rw [hm2] at q; exact q
  | exn z e1 => rw [hm2] at q; exact q
  | ok as e1 =>
    rw [hm2] at q
    intro vs H1 F1 fpe fpa pp
    refine call_end (as := (none, some j) :: as) (e1 := e1) (by simp only [List.length_cons]; rw [evArgs_length hm2, hl]) ⟨pp.st, pp.ss, ?_, pp.dis, pp.own, .cons (fun j' z => by cases z; exact h1) pp.bk⟩ q
    exact EvR.cons (fp := []) (fps := fpa) .no pp.val fun _ z => nomatch z
theorem e_meth0 {cn m n : Str} {f : Fn} {i : Nat} {pl : Sem Bool} (j : Nat) (c : Cq X W k) (M : HasMd X.prog X.w X.K X.mg X.base i cn m [] f) (ho : PE X (.Name n p) (tVar j)) (hk : decide (i ≤ k) = true := by rfl)
    (ht : eval (.Call (.Attribute (.Name n p) m apos) [] [] pos) X.env = (do
      let ov ← eval (.Name n p) X.env
      standAt apos.atName
      let (f, first) ← holding [ov] (getMethod ov m pl)
      callWith pos f first (backTo pos (starEach [] X.env)) (backToKw pos (keywordEach [] X.env))) := by rfl) : JE X W (.meth cn m [] f j []) (.Call (.Attribute (.Name n p) m apos) [] [] pos) := by
  obtain ⟨C, fa, fd, ps, Fk, hC, cl, hm, hb⟩ := M.ex
  refine PE.imp (pe_methS0 (E := WE W) ho cl hm Fk (c.room.mono (of_decide_eq_true hk)) hb (fun σ => passAt c.tk σ) ht) fun σ H Q q => ?_
  obtain ⟨F, en, fp, s, q⟩ := q
  have q : WP X.K X.mg W σ H F fp ((Rx.M.get j en).bind fun t e1 => (chkM cn m t e1).bind fun _ e2 => (evArgs [] [] e2).bind fun as e3 => callF f ((none, some j) :: as) e3) (FinV X.K X.mg H F fp σ Q) := q
  obtain ⟨a, dx, fs, h1, h2, h3, q⟩ := meth_pre s hC q
  refine ⟨.ref a, h1, a, dx, fs, rfl, h2, h3, ?_⟩
  have q : WP X.K X.mg W σ H F fp (callF f [(none, some j)] en) (FinV X.K X.mg H F fp σ Q) := q
  exact call_end (as := [(none, some j)]) (fpa := []) rfl ⟨Stp.refl, s, .cons (fp := []) (fps := []) .no .nil (fun _ z => nomatch z), nm, nm, .cons (fun j' z => by cases z; exact h1) .nil⟩ q
end
end Rx
end

section
/-! Rx, part 25: World.read, World.write: a thing of a list that an instance holds, under a name of its own. -/
namespace Rx
open PySem PySem.Spec PyProof.Rows L2
variable [Prw]
section
variable (K : PySem.W.Frag) (mg : Str → Option Value)
structure WO (H F : Hp) (σ : L2.St) (e : Ev) (ts bs : List OT) (x : OT) (a C dx lT lB : Addr) (vsT vsB : List V) (vX : V) (gT gB gX rest : List Addr) (tag : Addr → Nat) : Prop where
  slot : σ[0]? = some (some (.ref a))
  obj : H a = some (.ins C dx [("things", .ref lT), ("breaches", .ref lB), ("executed", vX)])
  cls : mg "World" = some (.ref C)
  oT : H lT = some (.lst vsT)
  zT : vsT.length ≤ sizeLine
  rT : OTRs K mg H F vsT ts gT
  oB : H lB = some (.lst vsB)
  zB : vsB.length ≤ sizeLine
  rB : OTRs K mg H F vsB bs gB
  rX : OTR K mg H F vX x gX
  env : EvR K mg H F σ (e.set 0 none) rest
  le : Same F H
  own : ∀ b, (b = a ∨ b = lT ∨ b = lB ∨ b ∈ gT ∨ b ∈ gB ∨ b ∈ gX ∨ b ∈ rest) → F b = none
  ta : tag a = 0
  tT : tag lT = 1
  tB : tag lB = 2
  tgT : ∀ b ∈ gT, tag b = 3
  tgB : ∀ b ∈ gB, tag b = 4
  tgX : ∀ b ∈ gX, tag b = 5
  tr : ∀ b ∈ rest, tag b = 6
end
section
variable {K : PySem.W.Frag} {mg : Str → Option Value} {H F H' F' : Hp} {σ σ' : L2.St} {e : Ev} {fp : List Addr} {ts bs : List OT} {x : OT} {a C dx lT lB : Addr} {vsT vsB : List V} {vX : V} {gT gB gX rest : List Addr} {tag : Addr → Nat}
/-- the world's addresses -/
abbrev wL (a lT lB : Addr) (gT gB gX rest : List Addr) : List Addr := a :: lT :: lB :: (gT ++ (gB ++ (gX ++ rest)))
theorem wL_mem {b : Addr} : b ∈ wL a lT lB gT gB gX rest ↔ b = a ∨ b = lT ∨ b = lB ∨ b ∈ gT ∨ b ∈ gB ∨ b ∈ gX ∨ b ∈ rest := by simp [wL]
theorem SS.world (s : SS K mg H F σ e fp) (hj : e.at 0 = some (wO ts bs x)) : ∃ a C dx lT lB vsT vsB vX gT gB gX rest tag, WO K mg H F σ e ts bs x a C dx lT lB vsT vsB vX gT gB gX rest tag ∧ ∀ b ∈ wL a lT lB gT gB gX rest, b ∈ fp := by
  obtain ⟨v, g, rest, k1, k2, k3, k4, k5⟩ := s.env.take hj
  cases k2 with
  | ins m1 m2 m3 m4 =>
    rename_i a C dx fs fp0
    cases m3 with
    | cons o1 r1 d1 =>
      rename_i v1 vs1 f1 g1
      cases r1 with
      | cons o2 r2 d2 =>
        rename_i v2 vs2 f2 g2
        cases r2 with
        | cons o3 r3 d3 =>
          rename_i v3 vs3 f3 g3
          cases r3
          cases o1 with
          | lst hT zT rT nT =>
            rename_i lT vsT gT
            cases o2 with
            | lst hB zB rB nB =>
              rename_i lB vsB gB
              have hd1 : ∀ b, (b = lT ∨ b ∈ gT) → b ≠ a ∧ b ≠ lB ∧ b ∉ gB ∧ b ∉ f3 ∧ b ∉ rest := fun b hb => by
                have q1 : b ∈ lT :: gT := List.mem_cons.mpr hb
                refine ⟨fun z => m4 (by rw [← z]; exact List.mem_append_left _ q1), fun z => d1 b q1 ?_, fun z => d1 b q1 ?_, fun z => d1 b q1 ?_, k5 b (List.mem_cons_of_mem _ (List.mem_append_left _ q1))⟩
                · rw [z]; exact List.mem_append_left _ List.mem_cons_self
                · exact List.mem_append_left _ (List.mem_cons_of_mem _ z)
                · exact List.mem_append_right _ (List.mem_append_left _ z)
              have hd2 : ∀ b, (b = lB ∨ b ∈ gB) → b ≠ a ∧ b ∉ f3 ∧ b ∉ rest := fun b hb => by
                have q1 : b ∈ lB :: gB := List.mem_cons.mpr hb
                refine ⟨fun z => m4 (by rw [← z]; exact List.mem_append_right _ (List.mem_append_left _ q1)), fun z => d2 b q1 (List.mem_append_left _ z), k5 b (List.mem_cons_of_mem _ (List.mem_append_right _ (List.mem_append_left _ q1)))⟩
              have hd3 : ∀ b ∈ f3, b ≠ a ∧ b ∉ rest := fun b hb => by
                have q1 : b ∈ (lT :: gT) ++ ((lB :: gB) ++ (f3 ++ [])) := List.mem_append_right _ (List.mem_append_right _ (List.mem_append_left _ hb))
                exact ⟨fun z => m4 (by rw [← z]; exact q1), k5 b (List.mem_cons_of_mem _ q1)⟩
              have hd0 : a ∉ rest := k5 a List.mem_cons_self
              have hmem : ∀ b, (b = a ∨ b = lT ∨ b = lB ∨ b ∈ gT ∨ b ∈ gB ∨ b ∈ f3 ∨ b ∈ rest) → b ∈ fp := fun b hb => by
                rw [k4]
                simp only [List.mem_cons, List.mem_append, List.not_mem_nil, or_false]
                rcases hb with h | h | h | h | h | h | h <;> simp [h]
              refine ⟨a, C, dx, lT, lB, vsT, vsB, v3, gT, gB, f3, rest, fun b => if b = a then 0 else if b = lT then 1 else if b = lB then 2 else if b ∈ gT then 3 else if b ∈ gB then 4 else if b ∈ f3 then 5 else 6,
                ⟨k1, m1, m2, hT, zT, rT, hB, zB, rB, o3, k3, s.le, fun b hb => s.own b (hmem b hb), by simp, ?_, ?_, fun b hb => ?_, fun b hb => ?_, fun b hb => ?_, fun b hb => ?_⟩, fun b hb => hmem b (wL_mem.mp hb)⟩
              · have := hd1 lT (.inl rfl)
                simp [this.1]
              · have h1 := hd2 lB (.inl rfl)
                have h2 := hd1 lT (.inl rfl)
                simp [h1.1, Ne.symm h2.2.1]
              · have h1 := hd1 b (.inr hb)
                have h2 : b ≠ lT := fun z => nT (by rw [← z]; exact hb)
                simp [h1.1, h2, h1.2.1, hb]
              · have h1 := hd2 b (.inr hb)
                have h2 : b ≠ lT := fun z => (hd1 b (.inl z)).2.2.1 hb
                have h3 : b ∉ gT := fun z => (hd1 b (.inr z)).2.2.1 hb
                have h4 : b ≠ lB := fun z => nB (by rw [← z]; exact hb)
                simp [h1.1, h2, h3, h4, hb]
              · have h1 := hd3 b hb
                have h2 : b ≠ lT := fun z => (hd1 b (.inl z)).2.2.2.1 hb
                have h3 : b ∉ gT := fun z => (hd1 b (.inr z)).2.2.2.1 hb
                have h4 : b ≠ lB := fun z => (hd2 b (.inl z)).2.1 hb
                have h5 : b ∉ gB := fun z => (hd2 b (.inr z)).2.1 hb
                simp [h1.1, h2, h3, h4, h5, hb]
              · have h1 : b ≠ a := fun z => hd0 (by rw [← z]; exact hb)
                have h2 : b ≠ lT := fun z => (hd1 b (.inl z)).2.2.2.2 hb
                have h3 : b ∉ gT := fun z => (hd1 b (.inr z)).2.2.2.2 hb
                have h4 : b ≠ lB := fun z => (hd2 b (.inl z)).2.2 hb
                have h5 : b ∉ gB := fun z => (hd2 b (.inr z)).2.2 hb
                have h6 : b ∉ f3 := fun z => (hd3 b z).2 hb
                simp [h1, h2, h3, h4, h5, h6]
/-- the world is put together again -/
theorem WO.close (w : WO K mg H F σ e ts bs x a C dx lT lB vsT vsB vX gT gB gX rest tag) : ∃ fp', SS K mg H F σ (e.set 0 (some (wO ts bs x))) fp' ∧ ∀ b ∈ fp', b ∈ wL a lT lB gT gB gX rest := by
  have o : OTR K mg H F (.ref a) (wO ts bs x) (a :: ((lT :: gT) ++ ((lB :: gB) ++ (gX ++ [])))) := by
    refine .ins w.obj w.cls (.cons (.lst w.oT w.zT w.rT fun z => ?_) (.cons (.lst w.oB w.zB w.rB fun z => ?_) (.cons w.rX .nil fun _ _ z => nomatch z) fun b hb z => ?_) fun b hb z => ?_) fun z => ?_
    · have := w.tgT _ z; rw [w.tT] at this; cases this
    · have := w.tgB _ z; rw [w.tB] at this; cases this
    · rw [List.append_nil] at z
      have h5 := w.tgX b z
      rcases List.mem_cons.mp hb with rfl | hb
      · rw [w.tB] at h5; cases h5
      · rw [w.tgB b hb] at h5; cases h5
    · have h1 : tag b = 1 ∨ tag b = 3 := (List.mem_cons.mp hb).imp (fun q => by rw [q, w.tT]) fun q => w.tgT b q
      have h2 : tag b = 2 ∨ tag b = 4 ∨ tag b = 5 := by
        rcases List.mem_append.mp z with q | q
        · rcases List.mem_cons.mp q with q | q
          · exact .inl (by rw [q, w.tB])
          · exact .inr (.inl (w.tgB b q))
        · rw [List.append_nil] at q; exact .inr (.inr (w.tgX b q))
      omega
    · have h0 := w.ta
      simp only [List.mem_append, List.mem_cons, List.not_mem_nil, or_false] at z
      rcases z with (z | z) | (z | z) | z
      · rw [z, w.tT] at h0; cases h0
      · rw [w.tgT _ z] at h0; cases h0
      · rw [z, w.tB] at h0; cases h0
      · rw [w.tgB _ z] at h0; cases h0
      · rw [w.tgX _ z] at h0; cases h0
  obtain ⟨fp', h1, h2⟩ := w.env.put w.slot o fun b hb z => by
    have h6 := w.tr b z
    simp only [List.mem_append, List.mem_cons, List.not_mem_nil, or_false] at hb
    rcases hb with q | (q | q) | (q | q) | q
    · rw [q, w.ta] at h6; cases h6
    · rw [q, w.tT] at h6; cases h6
    · rw [w.tgT _ q] at h6; cases h6
    · rw [q, w.tB] at h6; cases h6
    · rw [w.tgB _ q] at h6; cases h6
    · rw [w.tgX _ q] at h6; cases h6
  rw [List.set_set] at h1
  have h3 : ∀ b ∈ fp', b ∈ wL a lT lB gT gB gX rest := fun b hb => by
    rw [wL_mem]
    rcases h2 b hb with q | q
    · simp only [List.mem_append, List.mem_cons, List.not_mem_nil, or_false] at q
      rcases q with q | (q | q) | (q | q) | q <;> simp [q]
    · simp [q]
  exact ⟨fp', ⟨w.le, h1, fun b hb => w.own b (wL_mem.mp (h3 b hb))⟩, h3⟩
theorem WO.there (w : WO K mg H F σ e ts bs x a C dx lT lB vsT vsB vX gT gB gX rest tag) : ∀ b ∈ wL a lT lB gT gB gX rest, ∃ o, H b = some o := fun b hb => by
  rcases wL_mem.mp hb with rfl | rfl | rfl | q | q | q | q
  · exact ⟨_, w.obj⟩
  · exact ⟨_, w.oT⟩
  · exact ⟨_, w.oB⟩
  · exact w.rT.there b q
  · exact w.rB.there b q
  · exact w.rX.there b q
  · exact w.env.there b q
/-- a step that owns nothing -/
theorem WO.mono (w : WO K mg H F σ e ts bs x a C dx lT lB vsT vsB vX gT gB gX rest tag) (s : Stp H F [] H' F' []) (le : Same F' H') : WO K mg H' F' σ e ts bs x a C dx lT lB vsT vsB vX gT gB gX rest tag := by
  obtain ⟨k1, k2, _⟩ := s.held (gp := wL a lT lB gT gB gX rest) w.there (fun b _ z => nomatch z) fun b hb => w.own b (wL_mem.mp hb)
  have k : ∀ b, (b = a ∨ b = lT ∨ b = lB ∨ b ∈ gT ∨ b ∈ gB ∨ b ∈ gX ∨ b ∈ rest) → ∀ o, H b = some o → H' b = some o := fun b hb => k1 b (wL_mem.mpr hb)
  exact ⟨w.slot, k a (by simp) _ w.obj, w.cls, k lT (by simp) _ w.oT, w.zT, w.rT.keep s.fz fun b hb => k b (by simp [hb]), k lB (by simp) _ w.oB, w.zB, w.rB.keep s.fz fun b hb => k b (by simp [hb]), w.rX.keep s.fz fun b hb => k b (by simp [hb]), w.env.keep s.fz fun b hb => k b (by simp [hb]), le,
    fun b hb => k2 b (wL_mem.mpr hb), w.ta, w.tT, w.tB, w.tgT, w.tgB, w.tgX, w.tr⟩
/-- a breach more -/
theorem WO.breach (w : WO K mg H F σ e ts bs x a C dx lT lB vsT vsB vX gT gB gX rest tag) {v : V} {d : D} (hv : DR K mg F v d) (hz : vsB.length < sizeLine) :
    WO K mg (upd H lB (.lst (vsB ++ [v]))) F σ e ts (bs ++ [.fz d]) x a C dx lT lB vsT (vsB ++ [v]) vX gT gB gX rest tag := by
  have ku : ∀ b, tag b ≠ 2 → ∀ o, H b = some o → upd H lB (.lst (vsB ++ [v])) b = some o := fun b hb o h => by
    rw [upd_ne (fun z => hb (by rw [z, w.tB]))]; exact h
  have nn : ∀ (b : Addr) (n : Nat), n ≠ 2 → tag b = n → tag b ≠ 2 := fun b n h1 h2 => by rw [h2]; exact h1
  refine ⟨w.slot, ku a (nn a 0 (by decide) w.ta) _ w.obj, w.cls, ku lT (nn lT 1 (by decide) w.tT) _ w.oT, w.zT, w.rT.keep (Same.refl _) fun b hb => ku b (nn b 3 (by decide) (w.tgT b hb)), upd_same, by rw [List.length_append]; show vsB.length + 1 ≤ _; omega, ?_,
    w.rX.keep (Same.refl _) fun b hb => ku b (nn b 5 (by decide) (w.tgX b hb)), w.env.keep (Same.refl _) fun b hb => ku b (nn b 6 (by decide) (w.tr b hb)), fun b o h => ?_, w.own, w.ta, w.tT, w.tB, w.tgT, w.tgB, w.tgX, w.tr⟩
  · have := OTRs.snoc (w.rB.keep (H' := upd H lB (.lst (vsB ++ [v]))) (Same.refl _) fun b hb => ku b (nn b 4 (by decide) (w.tgB b hb))) (.fz hv) (fun b hb => nomatch hb)
    simpa using this
  · by_cases q : b = lB
    · have := w.own b (.inr (.inr (.inl q)))
      rw [this] at h; cases h
    · rw [upd_ne q]; exact w.le b o h
/-- a thing's own new value -/
theorem WO.value (w : WO K mg H F σ e ts bs x a C dx lT lB vsT vsB vX gT gB gX rest tag) {n : Nat} {nm vl : OT} {k : List Nat} {ks : List D} (hn : ts[n]? = some (thO nm k ks vl)) : ∃ th CT dxT vn vk vv, vsT[n]? = some (.ref th) ∧ H th = some (.ins CT dxT [("name", vn), ("kind", vk), ("value", vv)]) ∧
    mg "Thing" = some (.ref CT) ∧ DR K mg F vk (.tup (.str k :: ks)) ∧ (∀ d, vl = .fz d → DR K mg F vv d) ∧ th ∈ gT ∧
    ∀ (v : V) (d : D), DR K mg F v d → ∃ gT', WO K mg (upd H th (.ins CT dxT [("name", vn), ("kind", vk), ("value", v)])) F σ e (ts.set n (thO nm k ks (.fz d))) bs x a C dx lT lB vsT vsB vX gT' gB gX rest tag ∧ ∀ b ∈ gT', b ∈ gT := by
  obtain ⟨v1, g1, h1, h2, h3, h4⟩ := w.rT.child hn
  cases h2 with
  | ins m1 m2 m3 m4 =>
    rename_i th CT dxT fs fp0
    cases m3 with
    | cons o1 r1 d1 =>
      rename_i vn vs1 f1 gg1
      cases r1 with
      | cons o2 r2 d2 =>
        rename_i vk vs2 f2 gg2
        cases r2 with
        | cons o3 r3 d3 =>
          rename_i vv vs3 f3 gg3
          cases r3
          cases o2 with
          | fz dk =>
            have tin : th ∈ gT := h3 th List.mem_cons_self
            refine ⟨th, CT, dxT, vn, vk, vv, h1, m1, m2, dk, fun d e => by subst e; cases o3 with | fz q => exact q, tin, fun v d hv => ?_⟩
            have tg := w.tgT th tin
            have ku : ∀ b, b ≠ th → ∀ o, H b = some o → upd H th (.ins CT dxT [("name", vn), ("kind", vk), ("value", v)]) b = some o := fun b hb o h => by rw [upd_ne hb]; exact h
            have kt : ∀ (b : Addr) (m : Nat), m ≠ 3 → tag b = m → b ≠ th := fun b m h1 h2 z => by rw [z, tg] at h2; exact h1 h2.symm
            have thf : th ∉ f1 := fun z => m4 (List.mem_append_left _ z)
            have child : OTR K mg (upd H th (.ins CT dxT [("name", vn), ("kind", vk), ("value", v)])) F (.ref th) (thO nm k ks (.fz d)) (th :: (f1 ++ ([] ++ ([] ++ [])))) := by
              refine .ins upd_same m2 (.cons (o1.keep (Same.refl _) fun b hb => ku b fun z => thf (by rw [← z]; exact hb)) (.cons (.fz dk) (.cons (.fz hv) .nil fun _ z => nomatch z) fun _ z => nomatch z) fun _ _ z => ?_) ?_
              · simp at z
              · simpa using thf
            obtain ⟨gT', q1, q2⟩ := h4 (upd H th (.ins CT dxT [("name", vn), ("kind", vk), ("value", v)])) F _ _ (Same.refl _) (fun b hb hn => ku b fun z => hn (by rw [z]; exact List.mem_cons_self)) child (fun b hb => .inl (by
              simp only [List.append_nil, List.mem_cons] at hb
              rcases hb with rfl | hb
              · exact List.mem_cons_self
              · exact List.mem_cons_of_mem _ (List.mem_append_left _ hb)))
            have sub : ∀ b ∈ gT', b ∈ gT := fun b hb => by
              rcases q2 b hb with y | ⟨y, _⟩
              · simp only [List.append_nil, List.mem_cons] at y
                rcases y with rfl | y
                · exact tin
                · exact h3 b (List.mem_cons_of_mem _ (List.mem_append_left _ y))
              · exact y
            refine ⟨gT', ⟨w.slot, ku a (kt a 0 (by decide) w.ta) _ w.obj, w.cls, ku lT (kt lT 1 (by decide) w.tT) _ w.oT, w.zT, q1, ku lB (kt lB 2 (by decide) w.tB) _ w.oB, w.zB, w.rB.keep (Same.refl _) fun b hb => ku b (kt b 4 (by decide) (w.tgB b hb)),
              w.rX.keep (Same.refl _) fun b hb => ku b (kt b 5 (by decide) (w.tgX b hb)), w.env.keep (Same.refl _) fun b hb => ku b (kt b 6 (by decide) (w.tr b hb)), fun b o h => ?_, fun b hb => w.own b ?_, w.ta, w.tT, w.tB, fun b hb => w.tgT b (sub b hb), w.tgB, w.tgX, w.tr⟩, sub⟩
            · refine ku b (fun z => ?_) o (w.le b o h)
              rw [z, w.own th (.inr (.inr (.inr (.inl tin))))] at h; cases h
            · rcases hb with h | h | h | h | h | h | h
              · exact .inl h
              · exact .inr (.inl h)
              · exact .inr (.inr (.inl h))
              · exact .inr (.inr (.inr (.inl (sub b h))))
              · exact .inr (.inr (.inr (.inr (.inl h))))
              · exact .inr (.inr (.inr (.inr (.inr (.inl h)))))
              · exact .inr (.inr (.inr (.inr (.inr (.inr h)))))
end
end Rx
end

section
/-! Rx, part 26: World.read, World.write, as they do. -/
namespace Rx
open PySem PySem.Spec PyProof.Rows L2
variable [Prw]
section
variable {X : Cx} {W : WX} {k : Nat} {P : Nat → Bool}
abbrev tThing (K : PySem.W.Frag) (mg : Str → Option Value) (jt : Nat) : TS := tAsg (tPath K mg 0 [.f ["World"] "things", .v 1]) (gName jt)
abbrev tBare (K : PySem.W.Frag) (mg : Str → Option Value) (jt c : Nat) : TT := tTest (tOp (R2D K mg (bl2 ninD)) (tC (.str (strOf [c]))) (tPath K mg jt [.f ["Thing"] "kind", .c 0]))
abbrev tBreach (K : PySem.W.Frag) (mg : Str → Option Value) (c : Nat) : TS := tDrop (tBM K "list" rAppend (tPath K mg 0 [.f ["World"] "breaches"]) (tCons (tTup (tCons (tC (.str (strOf [c]))) (tCons (tVar 1) tNil))) tNil))
theorem len0 (f : Str) (v : V) (r : List (Str × V)) : ((f, v) :: r).lookup f = some v := by rw [List.lookup_cons, beq_self_eq_true]
/-- what read and write do alike -/
theorem mid {K : PySem.W.Frag} {mg : Str → Option Value} {H F : Hp} {σ : L2.St} {e : Ev} {fp : List Addr} {ts bs : List OT} {x nm vl : OT} {i : Int} {n c jt : Nat} {kk : List Nat} {ks : List D} {D : Ends} (hc : c < 0x110000)
    (s : SS K mg H F σ e fp) (hj : e.at 0 = some (wO ts bs x)) (hi : e.at 1 = some (.fz (.int i))) (hn : plc ts.length i = some n) (ht : ts[n]? = some (thO nm kk ks vl)) (hb : bs.length < sizeMax) (h2 : 2 ≤ jt) (hl : jt < σ.length)
    (cont : ∀ (H3 F3 : Hp) (th a C dx lT lB : Addr) (vsT vsB : List V) (vX : V) (gT gB gX rest : List Addr) (tag : Addr → Nat), vsT[n]? = some (.ref th) →
      WO K mg H3 F3 (σ.set jt (some (.ref th))) (e.set jt none) ts (brk c i kk bs) x a C dx lT lB vsT vsB vX gT gB gX rest tag → Stp H F fp H3 F3 (wL a lT lB gT gB gX rest) → D.nx (σ.set jt (some (.ref th))) H3) :
    tSeq (tThing K mg jt) (tIfS (tBare K mg jt c) (tBreach K mg c) tNext) D σ H := by
  obtain ⟨a, C, dx, lT, lB, vsT, vsB, vX, gT, gB, gX, rest, tag, w, hsub⟩ := s.world hj
  obtain ⟨th, CT, dxT, vn, vk, vv, hv1, hth, hCT, dk, _, hthg, _⟩ := w.value ht
  have hσ1 : σ[1]? = some (some (.int i)) := s.vars _ _ hi
  have hlenT := w.rT.len
  refine ⟨.ref a, .ref th, w.slot, .cons (.f w.obj (List.mem_singleton.mpr rfl) w.cls (len0 _ _ _)) (.cons (.v hσ1 (.inl (SqL.of w.oT)) (by rw [hlenT]; exact hn) hv1) .nil), ?_⟩
  show tIfS (tBare K mg jt c) (tBreach K mg c) tNext D (σ.set jt (some (.ref th))) H
  generalize hσ : σ.set jt (some (.ref th)) = σ1
  have hs0 : σ1[0]? = some (some (.ref a)) := by rw [← hσ, List.getElem?_set_ne (by omega)]; exact w.slot
  have hs1 : σ1[1]? = some (some (.int i)) := by rw [← hσ, List.getElem?_set_ne (by omega)]; exact hσ1
  have hst : σ1[jt]? = some (some (.ref th)) := by rw [← hσ, List.getElem?_set_self hl]
  obtain ⟨rest1, env1, hr1⟩ := w.env.drop jt (some (.ref th))
  have w1 : WO K mg H F σ1 (e.set jt none) ts bs x a C dx lT lB vsT vsB vX gT gB gX rest1 tag := ⟨hs0, w.obj, w.cls, w.oT, w.zT, w.rT, w.oB, w.zB, w.rB, w.rX, by
    rw [hσ] at env1
    rw [List.set_comm _ _ (by omega)]; exact env1, w.le, fun b hb => w.own b (by
      rcases hb with h | h | h | h | h | h | h
      · exact .inl h
      · exact .inr (.inl h)
      · exact .inr (.inr (.inl h))
      · exact .inr (.inr (.inr (.inl h)))
      · exact .inr (.inr (.inr (.inr (.inl h))))
      · exact .inr (.inr (.inr (.inr (.inr (.inl h)))))
      · exact .inr (.inr (.inr (.inr (.inr (.inr (hr1 b h))))))), w.ta, w.tT, w.tB, w.tgT, w.tgB, w.tgX, fun b hb => w.tr b (hr1 b hb)⟩
  have sub1 : ∀ b ∈ wL a lT lB gT gB gX rest1, b ∈ fp := fun b hb => hsub b (by
    rw [wL_mem] at hb ⊢
    rcases hb with h | h | h | h | h | h | h
    · exact .inl h
    · exact .inr (.inl h)
    · exact .inr (.inr (.inl h))
    · exact .inr (.inr (.inr (.inl h)))
    · exact .inr (.inr (.inr (.inr (.inl h))))
    · exact .inr (.inr (.inr (.inr (.inr (.inl h)))))
    · exact .inr (.inr (.inr (.inr (.inr (.inr (hr1 b h)))))))
  have st1 : Stp H F fp H F (wL a lT lB gT gB gX rest1) := Stp.refl.sub sub1
  have cc : ∀ (H3 F3 : Hp) (vsB' : List V), WO K mg H3 F3 σ1 (e.set jt none) ts (brk c i kk bs) x a C dx lT lB vsT vsB' vX gT gB gX rest1 tag → Stp H F fp H3 F3 (wL a lT lB gT gB gX rest1) → D.nx σ1 H3 := fun H3 F3 vsB' => by
    have := cont H3 F3 th a C dx lT lB vsT vsB' vX gT gB gX rest1 tag hv1
    rw [hσ] at this; exact this
  have hzc : DR K mg F (.str (strOf [c])) (.str [c]) := .str (by show 1 ≤ sizeLine; rw [sizeLine_eq]; omega) fun d hd => by
    have : d = c := by simpa using hd
    rw [this]; exact hc
  cases dk with
  | tup hq hz r =>
    rename_i at_ vs
    cases r with
    | cons r0 rr =>
      rename_i v0 vs0
      refine ⟨.ref th, v0, hst, .cons (.f hth (List.mem_singleton.mpr rfl) hCT (by rw [List.lookup_cons, show (("kind" : Str) == "name") = false by decide]; exact len0 _ _ _)) (.cons (.c (.inr (Same.seqT w.le hq)) (k := 0) (by rfl) rfl) .nil), ?_⟩
      refine ⟨F, .str [c], .str kk, .fz (.bl (!decide (c ∈ kk))), w.le, .fz hzc, .fz r0, by simp [bl2, ninD, inD], fun v H' F' fpv st le o ow => ?_⟩
      cases o with
      | fz db =>
        cases db
        refine ⟨_, rfl, ?_⟩
        have w2 := w1.mono st le
        have st2 : Stp H F fp H' F' (wL a lT lB gT gB gX rest1) := by
          have := st1.trans (st.frame (gp := wL a lT lB gT gB gX rest1))
          simpa using this
        show (if (!decide (c ∈ kk)) = true then tBreach K mg c D σ1 H' else tNext D σ1 H')
        by_cases hm : c ∈ kk
        · rw [if_neg (by simp [hm])]
          have e1 : brk c i kk bs = bs := if_pos hm
          have := cc H' F' vsB
          rw [e1] at this
          exact this w2 st2
        · rw [if_pos (by simp [hm])]
          have e1 : brk c i kk bs = bs ++ [.fz (.tup [.str [c], .int i])] := if_neg hm
          refine ⟨.ref a, .ref lB, hs0, .cons (.f w2.obj (List.mem_singleton.mpr rfl) w2.cls (by rw [List.lookup_cons, show (("breaches" : Str) == "things") = false by decide]; exact len0 _ _ _)) .nil, tyL w2.oB, .int i, hs1, (show 2 ≤ sizeLine by rw [sizeLine_eq]; omega), fun p hp => ?_⟩
          have st3 : Stp H' F' [] (upd H' p (.tup [.str (strOf [c]), .int i])) (upd F' p (.tup [.str (strOf [c]), .int i])) [] := Stp.newF hp w2.le
          have w3 := w2.mono st3 (same_upd2 w2.le)
          have hzB : vsB.length < sizeLine := by rw [w3.rB.len, ← sizeMax_eq]; exact hb
          refine ⟨lB, vsB, .ref p, rfl, rfl, w3.oB, hzB, ?_⟩
          have w4 := w3.breach (v := .ref p) (d := .tup [.str [c], .int i]) (.tup (SqT.of upd_same) (show 2 ≤ sizeLine by rw [sizeLine_eq]; omega) (.cons ((hzc.mono st.fz).mono st3.fz) (.cons (.int i) .nil))) hzB
          have st4 : Stp H F fp (upd H' p (.tup [.str (strOf [c]), .int i])) (upd F' p (.tup [.str (strOf [c]), .int i])) (wL a lT lB gT gB gX rest1) := by
            have := st2.trans (st3.frame (gp := wL a lT lB gT gB gX rest1))
            simpa using this
          have := cc (upd (upd H' p (.tup [.str (strOf [c]), .int i])) lB (.lst (vsB ++ [.ref p]))) (upd F' p (.tup [.str (strOf [c]), .int i])) (vsB ++ [.ref p])
          rw [e1] at this
          refine this w4 (st4.trans (Stp.wrs (g := [lB]) (fun b hb => ?_) fun b hb o h => ?_))
          · have : b = lB := by simpa using hb
            rw [this]; exact wL_mem.mpr (.inr (.inr (.inl rfl)))
          · rw [upd_ne (fun z => hb (by rw [z]; exact List.mem_cons_self))]; exact h
/-- World.read -/
theorem ss_read {st1 st2 : Stmt} {e4 : Expr} {pos : Pos} (hP : P 2 = false) (h1 : PS X st1 (tThing X.K X.mg 2)) (h2 : PS X st2 (tIfS (tBare X.K X.mg 2 114) (tBreach X.K X.mg 114) tNext)) (h4 : PE X e4 (tPath X.K X.mg 2 [.f ["Thing"] "value"])) :
    JSs X W P [.hk readS] [st1, st2, .Return (some e4) pos] := by
  refine PSs.imp (pss_cons h1 (pss_cons h2 (pss_one (ps_ret h4)))) fun D σ H h => ?_
  obtain ⟨F, en, fp, s, h⟩ := h
  have h : WS X.K X.mg W P D H F fp σ ((match readS en with
    | none => .bad
    | some (none, e') => .nx e'
    | some (some t, e') => .ret t e' : SR).sq (run [])) := h
  cases hr : readS en with
  | none => rw [hr] at h; exact h.elim
  | some r =>
    rw [hr] at h
    cases readS_some hr with
    | @mk ts bs x nm i n kk ks vd s2 hn ht hb =>
      have h : WS X.K X.mg W P D H F fp σ (.ret (.fz vd) [some (wO ts (brk 114 i kk bs) x), some (.fz (.int i)), none]) := h
      have hlen : σ.length = 3 := by rw [s.env.length]; rfl
      show tSeq (tThing X.K X.mg 2) (tSeq (tIfS (tBare X.K X.mg 2 114) (tBreach X.K X.mg 114) tNext) (tRet (tPath X.K X.mg 2 [.f ["Thing"] "value"]))) D σ H
      refine mid (D := { D with nx := (tRet (tPath X.K X.mg 2 [.f ["Thing"] "value"])) D }) (c := 114) (by decide) s rfl rfl hn ht hb (Nat.le_refl _) (by omega) fun H3 F3 th a C dx lT lB vsT vsB vX gT gB gX rest tag hv w st => ?_
      obtain ⟨th', CT, dxT, vn, vk, vv, hv1, hth, hCT, dk, hvv, hthg, _⟩ := w.value ht
      rw [hv] at hv1
      cases hv1
      refine ⟨.ref th, vv, by rw [List.getElem?_set_self (by omega)], .cons (.f hth (List.mem_singleton.mpr rfl) hCT (by
        rw [List.lookup_cons, show (("value" : Str) == "name") = false by decide, List.lookup_cons, show (("value" : Str) == "kind") = false by decide]; exact len0 _ _ _)) .nil, ?_⟩
      obtain ⟨fp', q1, q2⟩ := w.close
      refine h vv _ H3 F3 fp' [] ⟨st.sub fun b hb => q2 b (by simpa using hb), q1, .fz (hvv _ rfl), nm', nm'⟩ (Pr.set hP)
  where nm' {p : Addr → Prop} : ∀ a ∈ ([] : List Addr), p a := fun _ z => nomatch z
/-- World.write -/
theorem ss_write {st1 st2 st3 : Stmt} (hP : P 3 = false) (hT : HasC X.K X.mg "Thing" ["value"]) (h1 : PS X st1 (tThing X.K X.mg 3)) (h2 : PS X st2 (tIfS (tBare X.K X.mg 3 119) (tBreach X.K X.mg 119) tNext)) (h4 : PS X st3 (sFld X.K (tVar 3) (tVar 2) "value")) :
    JSs X W P [.hk writeS] [st1, st2, st3] := by
  refine PSs.imp (pss_cons h1 (pss_cons h2 (pss_one h4))) fun D σ H h => ?_
  obtain ⟨F, en, fp, s, h⟩ := h
  have h : WS X.K X.mg W P D H F fp σ ((match writeS en with
    | none => .bad
    | some (none, e') => .nx e'
    | some (some t, e') => .ret t e' : SR).sq (run [])) := h
  cases hr : writeS en with
  | none => rw [hr] at h; exact h.elim
  | some r =>
    rw [hr] at h
    cases writeS_some hr with
    | @mk ts bs x nm vl i n kk ks vd s2 hn ht hb =>
      have h : WS X.K X.mg W P D H F fp σ (.nx [some (wO (ts.set n (thO nm kk ks (.fz vd))) (brk 119 i kk bs) x), some (.fz (.int i)), some (.fz vd), none]) := h
      have hlen : σ.length = 4 := by rw [s.env.length]; rfl
      obtain ⟨v2, g2, hv2, o2, _⟩ := s.env.at (j := 2) (t := .fz vd) rfl
      have dv2 : DR X.K X.mg F v2 vd := by cases o2 with | fz q => exact q
      show tSeq (tThing X.K X.mg 3) (tSeq (tIfS (tBare X.K X.mg 3 119) (tBreach X.K X.mg 119) tNext) (sFld X.K (tVar 3) (tVar 2) "value")) D σ H
      refine mid (D := { D with nx := (sFld X.K (tVar 3) (tVar 2) "value") D }) (c := 119) (by decide) s rfl rfl hn ht hb (by decide) (by omega) fun H3 F3 th a C dx lT lB vsT vsB vX gT gB gX rest tag hv w st => ?_
      obtain ⟨th', CT, dxT, vn, vk, vv, hv1, hth, hCT, dk, hvv, hthg, hput⟩ := w.value ht
      rw [hv] at hv1
      cases hv1
      obtain ⟨gT', w5, hsub⟩ := hput v2 vd (dv2.mono st.fz)
      obtain ⟨C', hC', cl, no⟩ := hT.ex
      have hC2 := hC'.symm.trans hCT
      cases hC2
      refine ⟨v2, by rw [List.getElem?_set_ne (by omega)]; exact hv2, .ref th, by rw [List.getElem?_set_self (by omega)], th, CT, dxT, _, rfl, hth, cl, no "value" (List.mem_singleton.mpr rfl), (by show (3 : Nat) < 1000; decide), ?_⟩
      have ep : putF ("value" : Str) v2 [("name", vn), ("kind", vk), ("value", vv)] = ([("name", vn), ("kind", vk), ("value", v2)] : List (Str × V)) := by
        simp only [putF, if_neg (show ¬ (("name" : Str) = "value") by decide), if_neg (show ¬ (("kind" : Str) = "value") by decide), if_true]
      rw [ep]
      obtain ⟨fp', q1, q2⟩ := w5.close
      refine h _ _ F3 fp' ((st.trans (Stp.wrs (g := [th]) (fun b hb => ?_) fun b hb o h => ?_)).sub fun b hb => ?_) q1 (Pr.set hP)
      · have : b = th := by simpa using hb
        rw [this]; exact wL_mem.mpr (.inr (.inr (.inr (.inl hthg))))
      · rw [upd_ne (fun z => hb (by rw [z]; exact List.mem_cons_self))]; exact h
      · have := q2 b hb
        rw [wL_mem] at this ⊢
        rcases this with h | h | h | h | h | h | h
        · exact .inl h
        · exact .inr (.inl h)
        · exact .inr (.inr (.inl h))
        · exact .inr (.inr (.inr (.inl (hsub b h))))
        · exact .inr (.inr (.inr (.inr (.inl h))))
        · exact .inr (.inr (.inr (.inr (.inr (.inl h)))))
        · exact .inr (.inr (.inr (.inr (.inr (.inr h)))))
end
end Rx
namespace Rx
open PySem PySem.Spec PyProof.Rows L2
variable [Prw]
theorem pe_strC {X : Cx} {z : Str} {c : Nat} {j : Nat} {pos : Pos} (h : z = strOf [c] := by rfl) : PE X (.Constant (.str z) j pos) (tC (.str (strOf [c]))) := by subst h; exact pe_str
end Rx
end

section
/-! Rx, part 27: sum. -/
namespace Rx
open PySem PySem.Spec PyProof.Rows L2
variable [Prw]
section
variable {X : Cx}
theorem ints_V {K : PySem.W.Frag} {mg : Str → Option Value} {F : Hp} : ∀ {xs : List D} {ns : List Int} {vs : List V}, intsOf xs = some ns → DRs K mg F vs xs → vs = ns.map V.int
  | [], _, _, h, .nil => by cases h; rfl
  | d :: xs, ns, _, h, .cons r rs => by
    cases d <;> first | (cases h; done) | skip
    rename_i i
    have h : (intsOf xs).map (i :: ·) = some ns := h
    cases hx : intsOf xs with
    | none => rw [hx] at h; cases h
    | some ms =>
      rw [hx] at h; cases h
      cases r
      rw [ints_V hx rs]; rfl
theorem bi_sum (hc : X.calm = true) (h : X.mg "sum" = none) : HasBi X "sum" sumB := ⟨h, by decide, .inl ⟨"sum", rfl, CallR.cases fun ds t e => by
  obtain ⟨d, rfl⟩ := one_of e rfl (fun a b r => by cases a <;> rfl)
  cases d <;> first | (cases e; done) | skip
  rename_i xs
  have e : (intsOf xs).map (fun ns => OT.fz (.int ns.sum)) = some t := e
  cases hb : intsOf xs with
  | none => rw [hb] at e; cases e
  | some ns =>
    rw [hb] at e; cases e
    refine ⟨_, cr_sum hc, fun F H vs Q le p q => ?_⟩
    obtain ⟨v, rfl, p2⟩ := p.one
    obtain ⟨a, vs, rfl, h1, h2, h3⟩ := p2.items le
    rw [ints_V hb h3] at h1
    exact ⟨a, ns, rfl, .inl (.inl h1), q.int le⟩⟩⟩
end
end Rx
end

section
/-! Rx, part 28: sep.join(texts). -/
namespace Rx
open PySem PySem.Spec PyProof.Rows L2
variable [Prw]
theorem join_of (s : List Nat) : ∀ ys : List (List Nat), Str.join (strOf s) (ys.map strOf) = strOf (joinL s ys)
  | [] => rfl
  | [x] => rfl
  | x :: y :: r => by
    have ih := join_of s (y :: r)
    show strOf x ++ strOf s ++ Str.join (strOf s) ((y :: r).map strOf) = _
    rw [ih, strOf_app, strOf_app]; rfl
section
variable {K : PySem.W.Frag} {mg : Str → Option Value} {F : Hp}
theorem strs_V : ∀ {xs : List D} {ys : List (List Nat)} {vs : List V}, strsOf xs = some ys → DRs K mg F vs xs → vs = (ys.map strOf).map V.str
  | [], _, _, h, .nil => by cases h; rfl
  | d :: xs, ys, _, h, .cons r rs => by
    cases d <;> first | (cases h; done) | skip
    rename_i i
    have h : (strsOf xs).map (i :: ·) = some ys := h
    cases hx : strsOf xs with
    | none => rw [hx] at h; cases h
    | some ms =>
      rw [hx] at h; cases h
      cases r
      rw [strs_V hx rs]; rfl
end
section
variable {X : Cx} {W : WX} {k : Nat} {apos cpos : Pos} {e o : Expr} {xa xb : IE}
theorem e_join (ha : JO X W xa o) (hb : JO X W xb e) (hs : starEach [e] X.env = [(false, eval e X.env)] := by rfl) (hbase : attributeBase o "join" X.env (eval o X.env) = eval o X.env := by rfl) (hline : (apos.endLine == cpos.line) = true := by rfl) :
    JE X W (.mth "str" "join" joinD xa [xb]) (.Call (.Attribute o "join" apos) [e] [] cpos) := by
  refine PE.imp (pe_join ha hb hs hbase hline) fun σ H Q h => ?_
  obtain ⟨F, en, fp, ss, h⟩ := h
  have h : WP X.K X.mg W σ H F fp ((opd xa (sem xa).1 en).bind fun ra e1 => (tyM "str" xa ra e1).bind fun _ e2 => (evOps [xb] e2).bind fun rs e3 => (fin xa ra e3).bind fun x e4 => (fins [xb] rs e4).bind fun ds e5 => M.lift (joinD x ds) e5) (FinV X.K X.mg H F fp σ Q) := h
  refine opd_use Stp.refl ss h fun v H1 F1 fp1 ra e1 s1 _ ss1 o1 h1 => ?_
  obtain ⟨d, pd, hty, h2⟩ := tyM_use ss1 o1 h1
  cases d <;> first | (simp [D.ty] at hty; done) | skip
  rename_i s
  cases pd.all ss1.le
  refine ⟨⟨strOf s, rfl⟩, ?_⟩
  have h2 : WP X.K X.mg W σ H F fp ((opd xb (sem xb).1 e1).bind fun rb e3 => (fin xa ra e3).bind fun x e4 => (fins [xb] [rb] e4).bind fun ds e5 => M.lift (joinD x ds) e5) (FinV X.K X.mg H F fp σ Q) := by
    have e0 : (evOps [xb] e1) = (opd xb (sem xb).1 e1).bind fun t e2 => .ok [t] e2 := rfl
    rw [e0] at h2
    cases hm : opd xb (sem xb).1 e1 with
    | bad => rw [hm] at h2; exact h2
    | exn z e2 => rw [hm] at h2; exact h2
    | ok t e2 => rw [hm] at h2; exact h2
  refine opd_use s1 ss1 h2 fun w H2 F2 fp2 rb e2 s2 sf2 ss2 o2 h3 => ?_
  obtain ⟨d2, pd2, h4⟩ := fin_use ss2 (o1.mono sf2) h3
  have h4 : WP X.K X.mg W σ H F fp ((fin xb rb e2).bind fun y e5 => M.lift (joinD d2 [y]) e5) (FinV X.K X.mg H F fp σ Q) := by
    have e0 : (fins [xb] [rb] e2) = (fin xb rb e2).bind fun y e4 => .ok [y] e4 := rfl
    rw [e0] at h4
    cases hm : fin xb rb e2 with
    | bad => rw [hm] at h4; exact h4
    | exn z e4 => rw [hm] at h4; exact h4
    | ok t e4 => rw [hm] at h4; exact h4
  obtain ⟨y, py, h5⟩ := fin_use ss2 o2 h4
  obtain ⟨t, ht, hq⟩ := lift_end s2 ss2 h5
  cases d2 <;> first | (cases ht; done) | skip
  rename_i s2' _
  have es : strOf s = strOf s2' := by
    cases pd2.all ss2.le; rfl
  have es2 : s = s2' := by
    have := congrArg (fun z : Str => z.cps.toList) es
    simpa [strOf] using this
  subst es2
  cases y <;> first | (cases ht; done) | skip
  rename_i xs
  have ht : (match strsOf xs with
    | some ys => if (ys.map List.length).sum + ys.length * s.length ≤ 100000 ∧ (∀ c ∈ joinL s ys, c < 0x110000) ∧ (joinL s ys).length ≤ 200000 then some (OT.fz (.str (joinL s ys))) else none
    | none => none) = some t := ht
  cases hb2 : strsOf xs with
  | none => rw [hb2] at ht; cases ht
  | some ys =>
    rw [hb2] at ht
    dsimp only at ht
    by_cases hz : (ys.map List.length).sum + ys.length * s.length ≤ 100000 ∧ (∀ c ∈ joinL s ys, c < 0x110000) ∧ (joinL s ys).length ≤ 200000
    · rw [if_pos hz] at ht
      cases ht
      obtain ⟨a, vs, rfl, q1, q2, q3⟩ := py.items ss2.le
      rw [strs_V hb2 q3] at q1
      refine ⟨strOf s, a, ys.map strOf, rfl, rfl, .inl (.inl (.inl q1)), ?_, ?_⟩
      · have e1 : ((ys.map strOf).map (·.length)) = ys.map List.length := by
          rw [List.map_map]
          apply List.map_congr_left
          intro z _
          show (strOf z).length = z.length
          simp [strOf, Str.length]
        rw [e1, List.length_map]
        have e2 : (strOf s).length = s.length := by simp [strOf, Str.length]
        rw [e2]; omega
      · rw [show Txt.join (strOf s) (ys.map strOf) = strOf (joinL s ys) from (StrLaws.glued_eq_join _ _).trans (join_of s ys)]
        exact hq.same ss2.le (.str (by have := hz.2.2; unfold sizeLine; omega) hz.2.1)
    · rw [if_neg hz] at ht; cases ht
end
end Rx
end

section
/-! Rx, part 29: a dict is locked while it is walked. -/
namespace Rx
open PySem PySem.Spec PyProof.Rows L2
variable [Prw]
/-- a dict, as it is tracked -/
inductive DU (d : Addr) : HO → Prop
  | k (kvs : List (Key × V)) : DU d (.dK kvs)
  | n (xs : List (D × Addr × V)) : DU d (dNO d xs)
theorem DU.mut {d : Addr} {u : HO} (h : DU d u) : Mut (some u) := by cases h <;> trivial
theorem DU.notfrz {d : Addr} {u : HO} (h : DU d u) : ∀ o v, u ≠ .frz o v := by cases h <;> intro o v e <;> cases e
/-- other objects are no dicts -/
theorem rd_eq {H : Hp} {d : Addr} {u v : HO} (h : DU d u) (a : Rd H d u) (b : Rd H d v) (hv : ∀ o w, v ≠ .frz o w) : v = u := by
  rcases a with a | ⟨o, a⟩ <;> rcases b with b | ⟨o', b⟩
  · rw [a] at b; exact (Option.some.inj b).symm
  · rw [a] at b; exact absurd (Option.some.inj b) (h.notfrz _ _)
  · rw [a] at b; exact absurd (Option.some.inj b).symm (hv _ _)
  · rw [a] at b; cases b; rfl
/-- F and F', but for the dict at d, which is u in both, locked or not -/
structure Lk1 (d : Addr) (u : HO) (F F' : Hp) : Prop where
  du : DU d u
  ne : ∀ a, a ≠ d → F' a = F a
  l : Rd F d u
  r : Rd F' d u
section
variable {K : PySem.W.Frag} {mg : Str → Option Value} {W : WX} {H F H' F' H1 F1 : Hp} {fp fp1 fpe fpv : List Addr} {d : Addr} {u : HO} {σ : L2.St} {e : Ev}
theorem Lk1.rd (L : Lk1 d u F F') {a : Addr} {v : HO} (h : Rd F a v) (hv : ∀ o w, v ≠ .frz o w) : Rd F' a v := by
  by_cases q : a = d
  · subst q
    rw [rd_eq L.du L.l h hv]; exact L.r
  · unfold Rd; rw [L.ne a q]; exact h
theorem Lk1.lst (L : Lk1 d u F F') {a : Addr} {v : HO} (h : F a = some v) (h2 : ∀ o w, v ≠ .frz o w) (h3 : ¬ DU a v) : F' a = some v := by
  by_cases q : a = d
  · subst q
    have := rd_eq L.du L.l (.inl h) h2
    subst this
    exact absurd L.du h3
  · rw [L.ne a q]; exact h
theorem Lk1.seqT (L : Lk1 d u F F') {a : Addr} {vs : List V} (h : SqT K F a vs) : SqT K F' a vs := h.imp (fun q => L.rd q fun _ _ z => nomatch z) id
theorem Lk1.seqL (L : Lk1 d u F F') {a : Addr} {vs : List V} (h : SqL K F a vs) : SqL K F' a vs := h.imp (fun q => L.rd q fun _ _ z => nomatch z) id
theorem Lk1.list (L : Lk1 d u F F') {a : Addr} {vs : List V} (h : F a = some (.lst vs)) : F' a = some (.lst vs) := L.lst h (fun _ _ z => nomatch z) (fun z => nomatch z)
theorem Lk1.frzT (L : Lk1 d u F F') {a : Addr} {o : Obj} {vs : List V} (h : F a = some (.frz o (.tup vs))) : F' a = some (.frz o (.tup vs)) := by
  by_cases q : a = d
  · subst q
    have hu : ¬ DU a (.tup vs) := fun z => nomatch z
    rcases L.l with b | ⟨o', b⟩
    · rw [h] at b; exact absurd (Option.some.inj b).symm (L.du.notfrz _ _)
    · rw [h] at b; cases b; exact absurd L.du hu
  · rw [L.ne a q]; exact h
theorem Lk1.insn (L : Lk1 d u F F') {a C dx : Addr} {vs : List (Str × V)} (h : F a = some (.ins C dx vs)) : F' a = some (.ins C dx vs) := L.lst h (fun _ _ z => nomatch z) (fun z => nomatch z)
theorem Lk1.dk (L : Lk1 d u F F') {a : Addr} {vs : List (Key × V)} (h : Rd F a (.dK vs)) : Rd F' a (.dK vs) := L.rd h fun _ _ z => nomatch z
theorem Lk1.dn (L : Lk1 d u F F') {a : Addr} {vs : List (D × Addr × V)} (h : Rd F a (dNO a vs)) : Rd F' a (dNO a vs) := L.rd h fun _ _ z => nomatch z
mutual
theorem DR.lk1 (L : Lk1 d u F F') : ∀ {v : V} {x : D}, DR K mg F v x → DR K mg F' v x
  | _, _, .non => .non
  | _, _, .bl b => .bl b
  | _, _, .int i => .int i
  | _, _, .str h h2 => .str h h2
  | _, _, .tup h hz r => .tup (L.seqT h) hz (DRs.lk1 L r)
  | _, _, .lst h hz r => .lst (L.list h) hz (DRs.lk1 L r)
  | _, _, .lk h hz r => .lk (L.seqL h) hz (DRs.lk1 L r)
  | _, _, .dK h r => .dK (L.dk h) (DRk.lk1 L r)
  | _, _, .dN h r => .dN (L.dn h) (DRn.lk1 L r)
  | _, _, .ins h m r => .ins (L.insn h) m (DRf.lk1 L r)
  | _, _, .fn m => .fn m
  | _, _, .adr => .adr
  | _, _, .ali h hz => .ali (L.list h) hz
  | _, _, .tpn h hc hd hz r => .tpn (L.frzT h) hc hd hz (DRs.lk1 L r)
theorem DRs.lk1 (L : Lk1 d u F F') : ∀ {vs : List V} {ds : List D}, DRs K mg F vs ds → DRs K mg F' vs ds
  | _, _, .nil => .nil
  | _, _, .cons h r => .cons (DR.lk1 L h) (DRs.lk1 L r)
theorem DRk.lk1 (L : Lk1 d u F F') : ∀ {vs : List (Key × V)} {ds : List (D × D)}, DRk K mg F vs ds → DRk K mg F' vs ds
  | _, _, .nil => .nil
  | _, _, .cons k h r => .cons k (DR.lk1 L h) (DRk.lk1 L r)
theorem DRn.lk1 (L : Lk1 d u F F') : ∀ {vs : List (D × Addr × V)} {ds : List (D × D)}, DRn K mg F vs ds → DRn K mg F' vs ds
  | _, _, .nil => .nil
  | _, _, .cons z k h r => .cons z (DR.lk1 L k) (DR.lk1 L h) (DRn.lk1 L r)
theorem DRf.lk1 (L : Lk1 d u F F') : ∀ {vs : List (Str × V)} {ds : List (Str × D)}, DRf K mg F vs ds → DRf K mg F' vs ds
  | _, _, .nil => .nil
  | _, _, .cons h r => .cons (DR.lk1 L h) (DRf.lk1 L r)
end
mutual
theorem OTR.lk1 (L : Lk1 d u F F') : ∀ {v : V} {t : OT} {fp : List Addr}, (∀ a ∈ fp, ∀ o, H a = some o → H' a = some o) → OTR K mg H F v t fp → OTR K mg H' F' v t fp
  | _, _, _, _, .fz x => .fz (x.lk1 L)
  | _, _, _, k, .lst h hz r n => .lst (k _ List.mem_cons_self _ h) hz (OTRs.lk1 L (fun a ha => k a (List.mem_cons_of_mem _ ha)) r) n
  | _, _, _, k, .dK h r => .dK (k _ List.mem_cons_self _ h) (r.lk1 L)
  | _, _, _, k, .dN h r => .dN (k _ List.mem_cons_self _ h) (r.lk1 L)
  | _, _, _, k, .ins h m r n => .ins (k _ List.mem_cons_self _ h) m (OTRf.lk1 L (fun a ha => k a (List.mem_cons_of_mem _ ha)) r) n
theorem OTRf.lk1 (L : Lk1 d u F F') : ∀ {vs : List (Str × V)} {ts : List (Str × OT)} {fp : List Addr}, (∀ a ∈ fp, ∀ o, H a = some o → H' a = some o) → OTRf K mg H F vs ts fp → OTRf K mg H' F' vs ts fp
  | _, _, _, _, .nil => .nil
  | _, _, _, k, .cons h r n => .cons (OTR.lk1 L (fun a ha => k a (List.mem_append_left _ ha)) h) (OTRf.lk1 L (fun a ha => k a (List.mem_append_right _ ha)) r) n
theorem OTRs.lk1 (L : Lk1 d u F F') : ∀ {vs : List V} {ts : List OT} {fp : List Addr}, (∀ a ∈ fp, ∀ o, H a = some o → H' a = some o) → OTRs K mg H F vs ts fp → OTRs K mg H' F' vs ts fp
  | _, _, _, _, .nil => .nil
  | _, _, _, k, .cons h r n => .cons (OTR.lk1 L (fun a ha => k a (List.mem_append_left _ ha)) h) (OTRs.lk1 L (fun a ha => k a (List.mem_append_right _ ha)) r) n
end
theorem SlR.lk1 (L : Lk1 d u F F') {s : Option V} {o : Slot} {fp : List Addr} (k : ∀ a ∈ fp, ∀ o, H a = some o → H' a = some o) (h : SlR K mg H F s o fp) : SlR K mg H' F' s o fp := by
  cases h with
  | no => exact .no
  | so h => exact .so (h.lk1 L k)
theorem EvR.lk1 (L : Lk1 d u F F') : ∀ {σ : L2.St} {en : Ev} {fp : List Addr}, (∀ a ∈ fp, ∀ o, H a = some o → H' a = some o) → EvR K mg H F σ en fp → EvR K mg H' F' σ en fp
  | _, _, _, _, .nil => .nil
  | _, _, _, k, .cons h r n => .cons (h.lk1 L (fun a ha => k a (List.mem_append_left _ ha))) (EvR.lk1 L (fun a ha => k a (List.mem_append_right _ ha)) r) n
theorem Lk1.up (du : DU d u) (h : Rd F d u) (v : HO) (hv : v = u ∨ ∃ o, v = .frz o u) : Lk1 d u F (upd F d v) :=
  ⟨du, fun a q => upd_ne q, h, by
    unfold Rd; rw [upd_same]
    rcases hv with rfl | ⟨o, rfl⟩
    · exact .inl rfl
    · exact .inr ⟨o, rfl⟩⟩
/-- the state, the dict locked or no longer -/
theorem SS.lk1 (du : DU d u) (hF : Rd F d u) (v : HO) (hv : v = u ∨ ∃ o, v = .frz o u) (ss : SS K mg H F σ e fp) : SS K mg (upd H d v) (upd F d v) σ e fp := by
  have nd : ∀ a ∈ fp, a ≠ d := fun a ha z => by
    have := ss.own a ha
    rw [z] at this
    rcases hF with q | ⟨o, q⟩ <;> rw [q] at this <;> cases this
  exact ⟨same_upd2 ss.le, ss.env.lk1 (Lk1.up du hF v hv) fun a ha o q => by rw [upd_ne (nd a ha)]; exact q, fun a ha => by rw [upd_ne (nd a ha)]; exact ss.own a ha⟩
/-- a step between locking and unlocking is a step -/
theorem Stp.lk1 {o : Obj} (hF : F d = some u) (hH : H d = some u) (s : Stp (upd H d (.frz o u)) (upd F d (.frz o u)) fp H' F' fp1) : Stp H F fp (upd H' d u) (upd F' d u) fp1 := by
  refine ⟨fun a x q => ?_, fun a x q n => ?_, fun a x q => ?_, fun a q => ?_⟩
  · by_cases z : a = d
    · subst z; rw [upd_same, ← hF]; exact q
    · rw [upd_ne z]; exact s.fz a x (by rw [upd_ne z]; exact q)
  · by_cases z : a = d
    · subst z; rw [upd_same, ← hH]; exact q
    · rw [upd_ne z]; exact s.ke a x (by rw [upd_ne z]; exact q) n
  · by_cases z : a = d
    · subst z; exact .inl (by rw [hF]; simp)
    · rw [upd_ne z] at q
      rcases s.fr a x q with w | w | w
      · rw [upd_ne z] at w; exact .inl w
      · rw [upd_ne z] at w; exact .inr (.inl w)
      · exact .inr (.inr w)
  · rcases s.fp a q with w | w
    · exact .inl w
    · by_cases z : a = d
      · subst z; rw [upd_same] at w; cases w
      · rw [upd_ne z] at w; exact .inr w
theorem VPost.lk1 {o : Obj} {v : V} {t : OT} (du : DU d u) (hF : F d = some u) (hH : H d = some u) (p : VPost K mg (upd H d (.frz o u)) (upd F d (.frz o u)) fp σ e v t H' F' fpe fpv) : VPost K mg H F fp σ e v t (upd H' d u) (upd F' d u) fpe fpv := by
  have hF' : F' d = some (.frz o u) := p.st.fz d _ upd_same
  have nd : ∀ a ∈ fpv, a ≠ d := fun a ha z => by
    have := p.own a ha
    rw [z, hF'] at this; cases this
  exact ⟨Stp.lk1 hF hH p.st, p.ss.lk1 du (.inr ⟨o, hF'⟩) u (.inl rfl), p.val.lk1 (Lk1.up du (.inr ⟨o, hF'⟩) u (.inl rfl)) fun a ha x q => by rw [upd_ne (nd a ha)]; exact q, p.dis, fun a ha => by rw [upd_ne (nd a ha)]; exact p.own a ha⟩
end
/-! ### the rules -/
/-- not locked by a caller -/
def NF (X : Cx) (d : Addr) : Prop := ∀ o' u', X.H_0 d ≠ some (.frz o' u')
def SzU (d : Addr) (u : HO) : Prop := (∀ kvs, u = .dK kvs → kvs.length ≤ sizeLine) ∧ ∀ xs, u = dNO d xs → xs.length ≤ sizeLine
/-- the value is a dict; it is locked -/
def tLk (X : Cx) (te : TE) : TE := fun σ H Q => te σ H fun x H1 => ∃ d u, x = .ref d ∧ DU d u ∧ ((H1 d = some u ∧ ∀ o, NF X d → SzU d u → Q x (upd H1 d (.frz o u))) ∨ ∃ o, H1 d = some (.frz o u) ∧ (SzU d u → Q x H1))
theorem szu_of {P : Program} {w : World} {H : Hp} {h : Heap} {d : Addr} {u : HO} (x : ObjOk P w H h d u) (du : DU d u) : SzU d u := by
  refine ⟨fun kvs e => ?_, fun xs e => ?_⟩
  · subst e
    obtain ⟨z, _⟩ := x
    exact z
  · subst e
    have x : DNo d xs h := x.1
    exact x.1
section
variable {X : Cx} {e iter tg : Expr} {te : TE}
theorem pe_lk (he : PE X e te) : PE X e (tLk X te) := by
  refine ⟨fun pins s σ H Q I h => ?_⟩
  refine thn (he.run pins s σ H _ I h) fun v s1 ⟨x, H1, I1, r, d, u, ex, du, q⟩ => ?_
  subst ex
  rcases q with ⟨hd, q⟩ | ⟨o, hd, q⟩
  · obtain ⟨od, I2⟩ := I1.lock hd du.mut
    exact ⟨.ref d, _, I2, r, q od (I1.nofrz hd du.mut) (szu_of (I1.hok d u hd) du)⟩
  · obtain ⟨_, z⟩ := (show ObjOk X.prog X.w H1 s1.heap d (.frz o u) from I1.hok d _ hd)
    exact ⟨.ref d, H1, I1, r, q (szu_of z du)⟩
def unlQ (X : Cx) (Q : VK) : VK := fun v H => Q v H ∨ ∃ d o u, H d = some (.frz o u) ∧ NF X d ∧ Q v (upd H d u)
def tUnlE (X : Cx) (te : TE) : TE := fun σ H Q => te σ H (unlQ X Q)
theorem pe_unl (he : PE X e te) : PE X e (tUnlE X te) := by
  refine ⟨fun pins s σ H Q I h => ?_⟩
  refine thn (he.run pins s σ H _ I h) fun v s1 ⟨x, H1, I1, r, q⟩ => ?_
  rcases q with q | ⟨d, o, u, h1, h2, q⟩
  · exact ⟨x, H1, I1, r, q⟩
  · exact ⟨x, _, I1.unlock h1 h2, r, q⟩
def unlS (X : Cx) (f : L2.St → Hp → Prop) : L2.St → Hp → Prop := fun σ H => f σ H ∨ ∃ d o u, H d = some (.frz o u) ∧ NF X d ∧ f σ (upd H d u)
def unlD (X : Cx) (D : Ends) : Ends := ⟨unlS X D.nx, unlQ X D.rt, unlS X D.bk, unlS X D.ct⟩
def tUnlS (X : Cx) (t : TS) : TS := fun D σ H => t (unlD X D) σ H
theorem ps_unl {st : Stmt} {t : TS} (h : PS X st t) : PS X st (tUnlS X t) := by
  refine ⟨fun pins s σ H D I hw => ?_⟩
  refine thn (h.run pins s σ H _ I hw) fun f s1 q => ?_
  cases f with
  | next =>
    obtain ⟨σ', H', I2, q⟩ := q
    rcases q with q | ⟨d, o, u, h1, h2, q⟩
    · exact ⟨σ', H', I2, q⟩
    · exact ⟨σ', _, I2.unlock h1 h2, q⟩
  | brk =>
    obtain ⟨σ', H', I2, q⟩ := q
    rcases q with q | ⟨d, o, u, h1, h2, q⟩
    · exact ⟨σ', H', I2, q⟩
    · exact ⟨σ', _, I2.unlock h1 h2, q⟩
  | cont =>
    obtain ⟨σ', H', I2, q⟩ := q
    rcases q with q | ⟨d, o, u, h1, h2, q⟩
    · exact ⟨σ', H', I2, q⟩
    · exact ⟨σ', _, I2.unlock h1 h2, q⟩
  | ret v =>
    obtain ⟨x, σ', H', I2, r, q⟩ := q
    rcases q with q | ⟨d, o, u, h1, h2, q⟩
    · exact ⟨x, σ', H', I2, r, q⟩
    · exact ⟨x, σ', _, I2.unlock h1 h2, r, q⟩
end
/-! ### what is walked -/
section
variable {K : PySem.W.Frag} {mg : Str → Option Value} {H F : Hp} {d : Addr} {o : Obj}
theorem DRk.get : ∀ {kvs : List (Key × V)} {ds : List (D × D)} {i : Nat} {k : Key} {v : V}, DRk K mg F kvs ds → kvs[i]? = some (k, v) → ∃ e, ds[i]? = some (keyD k, e) ∧ keyOkS k ∧ DR K mg F v e
  | _, _, _, _, _, .nil, h => by simp at h
  | _, _, 0, _, _, .cons k r _, h => by simp at h; obtain ⟨rfl, rfl⟩ := h; exact ⟨_, rfl, k, r⟩
  | _, _, i + 1, _, _, .cons _ _ r, h => by
    obtain ⟨e, h1, h2⟩ := DRk.get (i := i) r (by simpa using h)
    exact ⟨e, by simpa using h1, h2⟩
theorem DR.key {k : Key} (h : keyOkS k) : DR K mg F (kV k) (keyD k) := by
  cases k with
  | inl i => exact .int i
  | inr z =>
    have e : z = strOf z.cps.toList := by simp [strOf]
    have : DR K mg F (.str (strOf z.cps.toList)) (.str z.cps.toList) := .str (by have := h.1; simpa [Str.length] using this) h.2
    rw [← e] at this
    exact this
theorem frz_get {F2 H : Hp} {u : HO} (s : Same F F2) (s2 : Same F2 H) (h : F d = some (.frz o u)) : H d = some (.frz o u) := s2 _ _ (s _ _ h)
theorem dw_keys {kvs : List (Key × V)} {ds : List (D × D)} (hz : kvs.length ≤ sizeLine) (h : F d = some (.frz o (.dK kvs))) (r : DRk K mg F kvs ds) : DWalk K mg (Itk d o kvs) F (ds.map (·.1)) := by
  have hl := r.length
  refine ⟨by rw [List.length_map]; omega, fun i H s hi => walk_keys.goes i H (by rw [List.length_map] at hi; omega) (s _ _ h), fun H s => by rw [List.length_map, ← hl]; exact walk_keys.stops H (s _ _ h), fun i H x H' F2 s1 s2 hi y => ?_⟩
  rw [List.length_map] at hi
  obtain ⟨e, k, v, hk, rfl⟩ := walk_keys.yields i H x H' (by omega) (frz_get s1 s2 h) y
  subst e
  obtain ⟨e, h1, h2, h3⟩ := r.get hk
  exact ⟨keyD k, F2, by rw [List.getElem?_map, h1]; rfl, Stp.refl, s2, .key h2⟩
theorem dw_vals {kvs : List (Key × V)} {ds : List (D × D)} (hz : kvs.length ≤ sizeLine) (h : F d = some (.frz o (.dK kvs))) (r : DRk K mg F kvs ds) : DWalk K mg (Itd d o kvs) F (ds.map (·.2)) := by
  have hl := r.length
  refine ⟨by rw [List.length_map]; omega, fun i H s hi => walk_values.goes i H (by rw [List.length_map] at hi; omega) (s _ _ h), fun H s => by rw [List.length_map, ← hl]; exact walk_values.stops H (s _ _ h), fun i H x H' F2 s1 s2 hi y => ?_⟩
  rw [List.length_map] at hi
  obtain ⟨e, k, hk⟩ := walk_values.yields i H x H' (by omega) (frz_get s1 s2 h) y
  subst e
  obtain ⟨e, h1, h2, h3⟩ := r.get hk
  exact ⟨e, F2, by rw [List.getElem?_map, h1]; rfl, Stp.refl, s2, h3.mono s1⟩
theorem dw_items {kvs : List (Key × V)} {ds : List (D × D)} (hz : kvs.length ≤ sizeLine) (h : F d = some (.frz o (.dK kvs))) (r : DRk K mg F kvs ds) : DWalk K mg (Iti d o kvs) F (ds.map fun p => .tup [p.1, p.2]) := by
  have hl := r.length
  refine ⟨by rw [List.length_map]; omega, fun i H s hi => walk_items.goes i H (by rw [List.length_map] at hi; omega) (s _ _ h), fun H s => by rw [List.length_map, ← hl]; exact walk_items.stops H (s _ _ h), fun i H x H' F2 s1 s2 hi y => ?_⟩
  rw [List.length_map] at hi
  obtain ⟨T, x1, y1, rfl, nT, rfl, f1, f2⟩ := walk_items.yields i H x H' (by omega) (frz_get s1 s2 h) y
  simp only at f1 f2
  cases hk : kvs[i]? with
  | none => rw [hk] at f1; cases f1
  | some p =>
    rw [hk] at f1 f2
    cases f1
    cases f2
    obtain ⟨e, h1, h2, h3⟩ := r.get (k := p.1) (v := p.2) hk
    obtain ⟨p1, p2, p3⟩ := pair_new (a := keyD p.1) (b := e) s2 nT (.key h2) (h3.mono s1)
    exact ⟨_, _, by rw [List.getElem?_map, h1]; rfl, p1, p2, p3⟩
end
end Rx
end

section
/-! Rx, part 30: walks over dicts. -/
namespace Rx
open PySem PySem.Spec PyProof.Rows L2
variable [Prw]
/-- the keys of a locked dict of tuple keys -/
def Itn (d : Addr) (o : Obj) (xs : List (D × Addr × V)) : It :=
  ⟨fun i H => H d = some (.frz o (dNO d xs)) ∧ i < xs.length, fun i H x H' => H' = H ∧ ∃ (k : D) (q : Addr) (v : V), xs[i]? = some (k, q, v) ∧ x = .ref q, fun i H => H d = some (.frz o (dNO d xs)) ∧ xs.length ≤ i⟩
/-- its pairs -/
def Itni (d : Addr) (o : Obj) (xs : List (D × Addr × V)) : It :=
  ⟨fun i H => H d = some (.frz o (dNO d xs)) ∧ i < xs.length, fun i H x H' => ∃ T k q v, xs[i]? = some (k, q, v) ∧ x = .ref T ∧ H T = none ∧ H' = upd H T (.tup [.ref q, v]), fun i H => H d = some (.frz o (dNO d xs)) ∧ xs.length ≤ i⟩
/-- where the one list has an item, the other has its fellow -/
theorem paired_at {α β : Type} {G : α → β → Prop} : ∀ {l₁ : List α} {l₂ : List β}, Paired G l₁ l₂ → ∀ {i : Nat} {a : α}, l₁[i]? = some a → ∃ b, l₂[i]? = some b ∧ G a b
  | _, _, .nil, _, _, h => by simp at h
  | _, _, .cons g _, 0, _, h => by cases h; exact ⟨_, rfl, g⟩
  | _ :: _, _ :: _, .cons _ t, i + 1, a, h => paired_at t (i := i) (a := a) h
theorem frzN {X : Cx} {pins : List (Addr × Obj)} {σ : L2.St} {H : Hp} {s : Shared} {d : Addr} {o : Obj} {xs : List (D × Addr × V)} (I : Inv X pins σ H s) (h : H d = some (.frz o (dNO d xs))) :
    (d == sysModules) = false ∧ ∃ (es : Array DictEntry) (ep : Nat), s.heap.DictRaw d es ep ∧ o.data = .dict es ep ∧ es.size = xs.length ∧
      ∀ (i : Nat) (k : D) (q : Addr) (v : V), xs[i]? = some (k, q, v) → ∃ hi : i < es.size, es[i].key = .ref q ∧ RelV v es[i].val := by
  obtain ⟨hd, x⟩ := (show ObjOk X.prog X.w H s.heap d (.frz o (.ext (DNo d xs))) from I.hok d _ h)
  have x : DNo d xs s.heap := x.1
  obtain ⟨h1, h2, hn, ys, pr, o', es, ep, ho, hx, hdt, he⟩ := x
  have hsz : es.size = ys.length := size_of_entries he
  have eo : o' = o := Option.some.inj (ho.symm.trans hd)
  refine ⟨h2, es, ep, ⟨o', ho, hx, hdt⟩, by rw [← eo]; exact hdt, by rw [hsz, Paired.length pr], fun i k q v e => ?_⟩
  obtain ⟨b, hb, e1, e2, e3⟩ := paired_at pr e
  have q2 := entry_at he i
  rw [hb] at q2
  obtain ⟨hi, e4⟩ := Array.getElem?_eq_some_iff.mp q2
  refine ⟨hi, ?_, ?_⟩
  · rw [e4]; show Value.ref b.2.1 = _; rw [e2]
  · rw [e4]; exact e3
section
variable {P : Program} {w : World} {K : PySem.W.Frag} {tg : Expr} {d it : Addr} {o : Obj} {n ep : Nat} {xs : List (D × Addr × V)}
/-- one record turns: how its state is told, and what one turn does -/
structure Rec1 (P : Program) (w : World) (K : PySem.W.Frag) (tg : Expr) (J : It) (it : Addr) (tn : Nat → Heap → Prop) : Prop where
  ob : ∀ i h, tn i h → ∃ u, h.get? it = some u ∧ (∀ v, u.data ≠ .cell v) ∧ ∀ h' : Heap, h'.get? it = some u → tn i h'
  go : ∀ (X : Cx), X.prog = P → X.w = w → X.K = K → X.calm = true → ∀ {i : Nat} {pins : List (Addr × Obj)} {s : Shared} {σ : L2.St} {H : Hp} {E : Value → Shared → Prop}, Inv X pins σ H s → FpOk X pins H it → tn i s.heap → J.go i H →
    wpAny (model P w) X.A (pyNext (.ref it)) (fun nx s1 => ∃ u, nx = some u ∧
      wpAny (model P w) X.A (letOwnedTupleGo tg (.ref it) u) (fun _ s2 => ∃ x H', Inv X pins σ H' s2 ∧ RelV x u ∧ J.yld i H x H' ∧ tn (i + 1) s2.heap ∧ H' it = none) E s1) E s
  stop : ∀ (X : Cx), X.prog = P → X.w = w → X.K = K → X.calm = true → ∀ {i : Nat} {pins : List (Addr × Obj)} {s : Shared} {σ : L2.St} {H : Hp} {E : Value → Shared → Prop}, Inv X pins σ H s → FpOk X pins H it → tn i s.heap → J.stop i H →
    wpAny (model P w) X.A (pyNext (.ref it)) (fun nx s1 => nx = none ∧ Inv X pins σ H s1) E s
  me : ∀ (A : Around) (i : Nat) (s : Shared) (Q : Value → Shared → Prop) (E : Value → Shared → Prop), tn i s.heap → Q (.ref it) s → wpAny (model P w) A (pyIter (.ref it)) Q E s
theorem Rec1.turn {J : It} {tn : Nat → Heap → Prop} (R : Rec1 P w K tg J it tn) : Turn P w K tg J [it] it tn := by
  have one : ∀ {b : Addr}, b ∈ [it] → b = it := fun h => List.mem_singleton.mp h
  refine ⟨List.mem_singleton.mpr rfl, fun i h t b hb => ?_, fun i h h' t k => ?_, fun X h1 h2 h3 h4 i pins s σ H E I f t g => ?_, fun X h1 h2 h3 h4 i pins s σ H E I f t g => ?_, fun A i s Q E t q => R.me A i s Q E t q⟩
  · cases one hb
    obtain ⟨u, a1, a2, _⟩ := R.ob i h t
    exact ⟨u, a1, a2⟩
  · obtain ⟨u, a1, _, a3⟩ := R.ob i h t
    exact a3 h' (k it (List.mem_singleton.mpr rfl) u a1)
  · refine thnF (R.go X h1 h2 h3 h4 I (f it (List.mem_singleton.mpr rfl)) t g) fun r s1 ⟨u, hr, z⟩ => ⟨u, hr, thnF z fun _ s2 ⟨x, H', y1, y2, y3, y4, y5⟩ => ⟨x, H', y1, y2, y3, y4, fun b hb => by cases one hb; exact y5⟩⟩
  · exact R.stop X h1 h2 h3 h4 I (f it (List.mem_singleton.mpr rfl)) t g
/-- the record has turned, all else stands -/
theorem Inv.rec1 {X : Cx} {pins : List (Addr × Obj)} {σ : L2.St} {H : Hp} {s : Shared} {h' : Heap} (I : Inv X pins σ H s) (f : FpOk X pins H it) (k : ∀ b u, b ≠ it → s.heap.get? b = some u → h'.get? b = some u) : Inv X pins σ H { s with heap := h' } :=
  Inv.turned (t' := s.toks) I k f.1 f.2.1 f.2.2.2.1 f.2.2.2.2.1 f.2.2.2.2.2
theorem rec_n (hn : n = xs.length) (he : ∃ es, o.data = .dict es ep ∧ es.size = n) : Rec1 P w K tg (Itn d o xs) it (fun i h => h.IsKeyIter it d i n ep) where
  ob := fun i h t => by
    obtain ⟨u, u1, u2, u3⟩ := t
    exact ⟨u, u1, (fun v z => by rw [u3] at z; cases z), fun h' g => ⟨u, g, u2, u3⟩⟩
  go := fun X e1 e2 e3 e4 {i pins s σ H E} I f t g => by
    cases e1; cases e2; cases e3
    obtain ⟨es, de, hz⟩ := he
    obtain ⟨sm, es', ep', raw, de', sz, ent⟩ := frzN I g.1
    cases de.symm.trans de'
    cases hz
    obtain ⟨hi, hkey, _⟩ := ent i _ _ _ (List.getElem?_eq_getElem g.2)
    refine wpAny_pyNext_keys_item_raw t raw hi fun h' t' sb => ⟨_, rfl, ?_⟩
    obtain ⟨u, u1, u2, u3⟩ := id t'
    rw [hkey]
    exact go_of u1 u2 u3 (by decide) ⟨.ref _, H, Inv.rec1 I f fun b ob hb z => (sb.2 b hb).trans z, rfl, ⟨rfl, _, _, _, List.getElem?_eq_getElem g.2, rfl⟩, t', f.1⟩
  stop := fun X e1 e2 e3 e4 {i pins s σ H E} I f t g => by
    cases e1; cases e2; cases e3
    obtain ⟨es, de, hz⟩ := he
    obtain ⟨sm, es', ep', raw, de', sz, ent⟩ := frzN I g.1
    cases de.symm.trans de'
    cases hz
    exact wpAny_pyNext_keys_end_raw (I.ok.hd e4) t raw (by have := g.2; omega) fun h' eb => ⟨rfl, Inv.rec1 I f fun b ob hb z => eb b ob hb z⟩
  me := fun A i s Q E t q => wpAny_pyIter_keyiter t q
theorem rec_ni {elts : List Expr} {kk : Nat} {tpos : Pos} (hn : n = xs.length) (he : ∃ es, o.data = .dict es ep ∧ es.size = n) :
    Rec1 P w K (.Tuple elts kk tpos) (Itni d o xs) it (fun i h => ∃ a b, IsItemIter h it d i n ep a b) where
  ob := fun i h ⟨a, b, t⟩ => ⟨_, t, (fun v z => by cases z), fun h' g => ⟨a, b, g⟩⟩
  go := fun X e1 e2 e3 e4 {i pins s σ H E} I f ⟨a, b, t⟩ g => by
    cases e1; cases e2; cases e3
    obtain ⟨es, de, hz⟩ := he
    obtain ⟨sm, es', ep', raw, de', sz, ent⟩ := frzN I g.1
    cases de.symm.trans de'
    cases hz
    have at_ := List.getElem?_eq_getElem g.2
    obtain ⟨hi, hkey, hv⟩ := ent i _ _ _ at_
    have lt : it < s.heap.objs.size := Heap.lt_size t
    refine wpAny_pyNext_items_item_raw t raw hi fun h' out new _ keep => ⟨_, rfl, wpAny_letOwnedTupleGo_items out fun h2 t2 sb => ?_⟩
    rw [hkey] at new
    have new2 := (sb.2 _ (Nat.ne_of_gt lt)).trans new
    refine ⟨.ref s.heap.objs.size, upd H s.heap.objs.size (.tup [.ref xs[i].2.1, xs[i].2.2]), ?_, rfl, ⟨_, _, _, _, at_, rfl, I.hok.fresh (Nat.le_refl _), rfl⟩, ⟨_, _, t2⟩, (upd_ne (Nat.ne_of_lt lt)).trans f.1⟩
    refine Inv.turnedNew (s := s) (t' := s.toks) (ch := [it]) I (fun c u hc z => ?_) (fun c hc => by cases List.mem_singleton.mp hc; exact f) (Nat.le_refl _) ⟨by show 2 ≤ sizeLine; decide, [.ref xs[i].2.1, es[i].val], Paired.cons (show RelV (.ref xs[i].2.1) (.ref xs[i].2.1) from rfl) (Paired.cons hv Paired.nil), _, new2, rfl, _, rfl⟩
    have hc2 : c ≠ it := fun z => hc (List.mem_singleton.mpr z)
    exact (sb.2 c hc2).trans (keep c u hc2 z)
  stop := fun X e1 e2 e3 e4 {i pins s σ H E} I f ⟨a, b, t⟩ g => by
    cases e1; cases e2; cases e3
    obtain ⟨es, de, hz⟩ := he
    obtain ⟨sm, es', ep', raw, de', sz, ent⟩ := frzN I g.1
    cases de.symm.trans de'
    cases hz
    exact wpAny_pyNext_items_end_raw (I.ok.hd e4) t raw (by have := g.2; omega) fun h' eb => ⟨rfl, Inv.rec1 I f fun b ob hb z => eb b ob hb z⟩
  me := fun A i s Q E ⟨a, b, t⟩ q => PySem.W.kcp_self t q
end
/-- how a locked dict of tuple keys is walked -/
inductive JN (d : Addr) (o : Obj) (xs : List (D × Addr × V)) : ITK → It → Prop
  | k : JN d o xs .keys (Itn d o xs)
  | i : JN d o xs .items (Itni d o xs)
def tJN (k : ITK) (td : TE) : TI := fun σ H R => td σ H fun x H1 => ∃ d o xs J, x = .ref d ∧ H1 d = some (.frz o (dNO d xs)) ∧ JN d o xs k J ∧ R J H1
/-- what is walked of a locked dict: by the kit's own rules, where the keys are numbers and texts -/
def tJ (k : ITK) (td : TE) : TI := match k with
  | .keys => fun σ H R => iKeys td σ H R ∨ tJN .keys td σ H R
  | .values => iVals td
  | .items => fun σ H R => iItems td σ H R ∨ tJN .items td σ H R
  | _ => fun _ _ _ => False
theorem pi_or {X : Cx} {tg e : Expr} {t t' : TI} (h : PI X tg e t) (h' : PI X tg e t') : PI X tg e (fun σ H R => t σ H R ∨ t' σ H R) := ⟨fun pins s σ H R I q => q.elim (h.run pins s σ H R I) (h'.run pins s σ H R I)⟩
section
variable {X : Cx} {tg e : Expr} {td : TE} {apos cpos : Pos}
theorem pi_keysN (he : PE X e td) : PI X tg e (tJN .keys td) := by
  refine ⟨fun pins s σ H R I h => thn (he.run pins s σ H _ I h) fun u s1 z => ?_⟩
  obtain ⟨x, H1, I1, rx, d, o, xs, J, rfl, hd, hJ, q⟩ := z
  cases rx
  cases hJ
  obtain ⟨sm, es, ep, raw, de, sz, _⟩ := frzN I1 hd
  exact wpAny_pyIter_dict_raw sm raw (pi_one (tk := s1.toks) I1 _ (rec_n sz ⟨es, de, rfl⟩).turn ⟨_, Heap.get?_push_size _ rfl, rfl, rfl⟩ q)
theorem pi_itemsN {elts : List Expr} {kk : Nat} {tpos : Pos} (he : PE X e td) (hbase : attributeBase e "items" X.env (eval e X.env) = eval e X.env) (hline : (apos.endLine == cpos.line) = true) :
    PI X (.Tuple elts kk tpos) (.Call (.Attribute e "items" apos) [] [] cpos) (tJN .items td) := by
  refine ⟨fun pins s σ H R I h => wpAny_Call_method (T := "dict") (id := "dict.items") hbase rfl hline PySem.F.plainAttrs_dict PySem.F.slot_dict_items PySem.F.type_dict_items (thn (he.run pins s σ H _ I h) fun u s1 z => ?_)⟩
  obtain ⟨x, H1, I1, rx, d, o, xs, J, rfl, hd, hJ, q⟩ := z
  cases rx
  cases hJ
  obtain ⟨sm, es, ep, raw, de, sz, _⟩ := frzN I1 hd
  refine ⟨raw.typeIs, fun a z => ?_, method_meetsIn PySem.F.slot_dict_items PySem.F.entry_dict_items rfl (PySem.evalArgs_none ⟨rfl, raw.typeIs, PySem.F.args_dict_items_1 _, _, meets_dict_items_raw d sm, ⟨⟨es, ep, raw⟩, ?_⟩⟩)⟩
  · cases z
    obtain ⟨u, u1, u2, _⟩ := raw
    exact ⟨u, u1, u2.2.1⟩
  · exact wpAny_pyIter_items_raw ⟨_, Heap.get?_push_size _ rfl, rfl, rfl⟩ (raw.at fun u z => Heap.get?_push_of_some _ z)
      (pi_one (tk := s1.toks) (I1.kept (t' := s1.toks) fun b u z => Heap.get?_push_of_some _ z) _ (rec_ni sz ⟨es, de, rfl⟩).turn ⟨.none, .none, Heap.get?_push_size _ rfl⟩ q)
theorem pi_keysJ (he : PE X e td) : PI X tg e (tJ .keys td) := pi_or (pi_keys he) (pi_keysN he)
theorem pi_valuesJ (he : PE X e td) (hbase : attributeBase e "values" X.env (eval e X.env) = eval e X.env := by rfl) (hline : (apos.endLine == cpos.line) = true := by rfl) :
    PI X tg (.Call (.Attribute e "values" apos) [] [] cpos) (tJ .values td) := pi_values he hbase hline
theorem pi_itemsJ {elts : List Expr} {kk : Nat} {tpos : Pos} (he : PE X e td) (hbase : attributeBase e "items" X.env (eval e X.env) = eval e X.env := by rfl) (hline : (apos.endLine == cpos.line) = true := by rfl) :
    PI X (.Tuple elts kk tpos) (.Call (.Attribute e "items" apos) [] [] cpos) (tJ .items td) := pi_or (pi_items he hbase hline) (pi_itemsN he hbase hline)
end
/-! ### a locked dict's data -/
section
variable {K : PySem.W.Frag} {mg : Str → Option Value} {H F : Hp} {d : Addr} {o : Obj}
/-- the dict u is the data x -/
inductive DV (K : PySem.W.Frag) (mg : Str → Option Value) (F : Hp) (d : Addr) : HO → D → Prop
  | k {kvs : List (Key × V)} {ds : List (D × D)} : DRk K mg F kvs ds → DV K mg F d (.dK kvs) (.dic ds)
  | n {xs : List (D × Addr × V)} {ds : List (D × D)} : DRn K mg F xs ds → DV K mg F d (dNO d xs) (.din ds)
theorem DV.du {u : HO} {x : D} (h : DV K mg F d u x) : DU d u := by
  cases h with
  | k => exact .k _
  | n => exact .n _
theorem DV.lk1 {d' : Addr} {u u' : HO} {x : D} {F' : Hp} (L : Lk1 d' u' F F') (h : DV K mg F d u x) : DV K mg F' d u x := by
  cases h with
  | k r => exact .k (r.lk1 L)
  | n r => exact .n (r.lk1 L)
theorem DRn.get : ∀ {xs : List (D × Addr × V)} {ds : List (D × D)} {i : Nat} {k : D} {q : Addr} {v : V}, DRn K mg F xs ds → xs[i]? = some (k, q, v) → ∃ e, ds[i]? = some (k, e) ∧ DR K mg F (.ref q) k ∧ DR K mg F v e
  | _, _, _, _, _, _, .nil, h => by simp at h
  | _, _, 0, _, _, _, .cons k r z _, h => by simp at h; obtain ⟨rfl, rfl, rfl⟩ := h; exact ⟨_, rfl, r, z⟩
  | _, _, i + 1, _, _, _, .cons _ _ _ r, h => by
    obtain ⟨e, h1, h2⟩ := DRn.get (i := i) r (by simpa using h)
    exact ⟨e, by simpa using h1, h2⟩
theorem dw_n {xs : List (D × Addr × V)} {ds : List (D × D)} (hz : xs.length ≤ sizeLine) (h : F d = some (.frz o (dNO d xs))) (r : DRn K mg F xs ds) : DWalk K mg (Itn d o xs) F (ds.map (·.1)) := by
  have hl := r.length
  refine ⟨by rw [List.length_map]; omega, fun i H s hi => ⟨s _ _ h, by rw [List.length_map] at hi; omega⟩, fun H s => ⟨s _ _ h, by rw [List.length_map]; omega⟩, fun i H x H' F2 s1 s2 hi y => ?_⟩
  obtain ⟨e, k, q, v, hk, rfl⟩ := y
  subst e
  obtain ⟨e, h1, h2, h3⟩ := r.get hk
  exact ⟨k, F2, by rw [List.getElem?_map, h1]; rfl, Stp.refl, s2, h2.mono s1⟩
theorem dw_ni {xs : List (D × Addr × V)} {ds : List (D × D)} (hz : xs.length ≤ sizeLine) (h : F d = some (.frz o (dNO d xs))) (r : DRn K mg F xs ds) : DWalk K mg (Itni d o xs) F (ds.map fun p => .tup [p.1, p.2]) := by
  have hl := r.length
  refine ⟨by rw [List.length_map]; omega, fun i H s hi => ⟨s _ _ h, by rw [List.length_map] at hi; omega⟩, fun H s => ⟨s _ _ h, by rw [List.length_map]; omega⟩, fun i H x H' F2 s1 s2 hi y => ?_⟩
  obtain ⟨T, k, q, v, hk, rfl, nT, rfl⟩ := y
  obtain ⟨e, h1, h2, h3⟩ := r.get hk
  obtain ⟨p1, p2, p3⟩ := pair_new (a := k) (b := e) s2 nT (h2.mono s1) (h3.mono s1)
  exact ⟨_, _, by rw [List.getElem?_map, h1]; rfl, p1, p2, p3⟩
/-- a locked dict goes through its data -/
theorem dw_ofK {k : ITK} {kvs : List (Key × V)} {ds : List (D × D)} {ys : List D} (hi : itemsOf k [.dic ds] = some ys) (h : F d = some (.frz o (.dK kvs))) (r : DRk K mg F kvs ds) (hz : kvs.length ≤ sizeLine) :
    (k = .keys → DWalk K mg (Itk d o kvs) F ys) ∧ (k = .values → DWalk K mg (Itd d o kvs) F ys) ∧ (k = .items → DWalk K mg (Iti d o kvs) F ys) := by
  refine ⟨fun e => ?_, fun e => ?_, fun e => ?_⟩ <;> subst e <;> cases hi
  · exact dw_keys hz h r
  · exact dw_vals hz h r
  · exact dw_items hz h r
theorem dw_ofN {k : ITK} {xs : List (D × Addr × V)} {ds : List (D × D)} {ys : List D} (hk : k = .keys ∨ k = .items) (hi : itemsOf k [.din ds] = some ys) (h : F d = some (.frz o (dNO d xs))) (r : DRn K mg F xs ds) (hz : xs.length ≤ sizeLine) :
    ∃ J, JN d o xs k J ∧ DWalk K mg J F ys := by
  rcases hk with rfl | rfl <;> cases hi
  · exact ⟨_, .k, dw_n hz h r⟩
  · exact ⟨_, .i, dw_ni hz h r⟩
end
end Rx
end

section
/-! Rx, part 31: loops and comprehensions over dicts. -/
namespace Rx
open PySem PySem.Spec PyProof.Rows L2
variable [Prw]
section
variable {K : PySem.W.Frag} {mg : Str → Option Value} {W : WX} {P : Nat → Bool} {D : Ends} {σ : L2.St} {H F H1 F1 : Hp} {fp fp1 : List Addr} {e1 : Ev}
theorem tFor_core {J : It} {xs : List Rx.D} {tgt : TGt} {sb : List IS} (hP : (tgt.has.all fun j => !P j) = true) (wk : DWalk K mg J F1 xs) (s1 : Stp H F fp H1 F1 fp1) (ss1 : SS K mg H1 F1 σ e1 fp1) (h : WS K mg W P D H F fp σ (forGo tgt (run sb) xs e1)) :
    ∃ W' : Nat → Nat → L2.St → Hp → Prop, (∃ m, W' 0 m σ H1) ∧ ∀ i m σ2 H2, W' i m σ2 H2 → (J.stop i H2 ∧ D.nx σ2 H2) ∨ (J.go i H2 ∧ ∃ N : L2.St → Hp → Prop, (∀ σ' H', N σ' H' → ∃ m', m' < m ∧ W' (i + 1) m' σ' H') ∧
      ∀ x H', J.yld i H2 x H' → gOf K tgt x σ2 H' fun σ3 H3 => tS K mg W P (run sb) { D with nx := N, ct := N, bk := D.nx } σ3 H3) := by
  refine ⟨fun i m σ2 H2 => i ≤ xs.length ∧ m = xs.length - i ∧ ∃ F2 e2 fp2, Stp H F fp H2 F2 fp2 ∧ Same F1 F2 ∧ SS K mg H2 F2 σ2 e2 fp2 ∧ Pr P σ σ2 ∧ WS K mg W P D H F fp σ (forGo tgt (run sb) (xs.drop i) e2), ⟨xs.length, Nat.zero_le _, rfl, F1, e1, fp1, s1, Same.refl _, ss1, Pr.refl, h⟩, ?_⟩
  rintro i m σ2 H2 ⟨hi, rfl, F2, e2, fp2, s2, sf2, ss2, p2, h2⟩
  have wk2 := wk.mono sf2
  by_cases hlt : i < xs.length
  · refine .inr ⟨wk2.goes i H2 ss2.le hlt, ?_⟩
    have hd : xs.drop i = xs[i] :: xs.drop (i + 1) := List.drop_eq_getElem_cons hlt
    rw [hd] at h2
    refine ⟨fun σ3 H3 => ∃ F3 e3 fp3, Stp H F fp H3 F3 fp3 ∧ Same F1 F3 ∧ SS K mg H3 F3 σ3 e3 fp3 ∧ Pr P σ σ3 ∧ WS K mg W P D H F fp σ (forGo tgt (run sb) (xs.drop (i + 1)) e3), ?_, ?_⟩
    · rintro σ3 H3 ⟨F3, e3, fp3, k1, k2, k3, k4, k5⟩
      exact ⟨xs.length - (i + 1), by omega, hlt, rfl, F3, e3, fp3, k1, k2, k3, k4, k5⟩
    · intro x H3 hy
      obtain ⟨d, F3, hd1, st3, le3, rd⟩ := wk2.yields i H2 x H3 F2 (Same.refl _) ss2.le hlt hy
      have hd2 : xs[i] = d := Option.some.inj ((List.getElem?_eq_getElem hlt).symm.trans hd1)
      rw [hd2] at h2
      obtain ⟨k1, k2, k3⟩ := st3.held ss2.env.there (fun a _ q => nomatch q) ss2.own
      have ss3 : SS K mg H3 F3 σ2 e2 fp2 := ⟨le3, ss2.env.keep st3.fz k1, k2⟩
      have s3 : Stp H F fp H3 F3 fp2 := s2.trans (by simpa using st3.frame (gp := fp2))
      cases hb : bindT tgt d e2 with
      | none =>
        have : forGo tgt (run sb) (d :: xs.drop (i + 1)) e2 = .bad := by
          show (match bindT tgt d e2 with | none => _ | some e1 => _) = _
          rw [hb]
        rw [this] at h2
        exact h2.elim
      | some e3 =>
        have eq : forGo tgt (run sb) (d :: xs.drop (i + 1)) e2 = (run sb e3).lp (forGo tgt (run sb) (xs.drop (i + 1))) := by
          show (match bindT tgt d e2 with | none => _ | some e1 => _) = _
          rw [hb]
        rw [eq] at h2
        refine bindT_ok tgt hP rd hb ss3 fun σ3 fp3 ss4 sub3 pr3 _ => ?_
        refine ⟨F3, e3, fp3, ss4, ?_⟩
        have s4 : Stp H F fp H3 F3 fp3 := s3.sub sub3
        have p4 : Pr P σ σ3 := p2.trans pr3
        cases hr : run sb e3 with
        | bad => rw [hr] at h2; exact h2.elim
        | nx e4 => rw [hr] at h2; exact fun σ5 H5 F5 fp5 st5 ss5 p5 => ⟨F5, e4, fp5, s4.trans st5, (sf2.trans st3.fz).trans st5.fz, ss5, p4.trans p5, h2⟩
        | ct e4 => rw [hr] at h2; exact fun σ5 H5 F5 fp5 st5 ss5 p5 => ⟨F5, e4, fp5, s4.trans st5, (sf2.trans st3.fz).trans st5.fz, ss5, p4.trans p5, h2⟩
        | brk e4 => rw [hr] at h2; exact WS.step (r := .nx e4) s4 p4 h2
        | ret t e4 => rw [hr] at h2; exact WS.step (r := .ret t e4) s4 p4 h2
        | exn x e4 => rw [hr] at h2; exact WS.step (r := .exn x e4) s4 p4 h2
  · have ei : i = xs.length := by omega
    subst ei
    rw [List.drop_length] at h2
    exact .inl ⟨wk2.stops H2 ss2.le, h2 σ2 H2 F2 fp2 s2 ss2 p2⟩

/-- locked, unlocked behind it -/
theorem WS.lockd {X : Cx} {d : Addr} {u : HO} {o : Obj} {r : SR} (du : DU d u) (hF : F d = some u) (hH : H d = some u) (nf : NF X d) (hr : ∀ x e, r ≠ .exn x e) (h : WS K mg W P D H F fp σ r) : WS K mg W P (unlD X D) (upd H d (.frz o u)) (upd F d (.frz o u)) fp σ r := by
  have at1 : ∀ {H' F' : Hp} {fp' fp2 : List Addr} {σ' : L2.St} {e : Ev}, Stp (upd H d (.frz o u)) (upd F d (.frz o u)) fp H' F' fp' → SS K mg H' F' σ' e fp2 → F' d = some (.frz o u) ∧ H' d = some (.frz o u) := fun st ss =>
    ⟨st.fz d _ upd_same, ss.le d _ (st.fz d _ upd_same)⟩
  cases r with
  | bad => exact h
  | nx e => exact fun σ' H' F' fp' st ss pr => .inr ⟨d, o, u, (at1 st ss).2, nf, h σ' _ _ fp' (Stp.lk1 hF hH st) (ss.lk1 du (.inr ⟨o, (at1 st ss).1⟩) u (.inl rfl)) pr⟩
  | brk e => exact fun σ' H' F' fp' st ss pr => .inr ⟨d, o, u, (at1 st ss).2, nf, h σ' _ _ fp' (Stp.lk1 hF hH st) (ss.lk1 du (.inr ⟨o, (at1 st ss).1⟩) u (.inl rfl)) pr⟩
  | ct e => exact fun σ' H' F' fp' st ss pr => .inr ⟨d, o, u, (at1 st ss).2, nf, h σ' _ _ fp' (Stp.lk1 hF hH st) (ss.lk1 du (.inr ⟨o, (at1 st ss).1⟩) u (.inl rfl)) pr⟩
  | ret t e => exact fun v σ' H' F' fpe fpv p pr => .inr ⟨d, o, u, (at1 p.st p.ss).2, nf, h v σ' _ _ fpe fpv (VPost.lk1 du hF hH p) pr⟩
  | exn x e => exact absurd rfl (hr x e)
theorem WS.unl {X : Cx} {r : SR} (hr : ∀ x e, r ≠ .exn x e) (h : WS K mg W P D H F fp σ r) : WS K mg W P (unlD X D) H F fp σ r := by
  cases r with
  | bad => exact h
  | nx e => exact fun σ' H' F' fp' st ss pr => .inl (h σ' H' F' fp' st ss pr)
  | brk e => exact fun σ' H' F' fp' st ss pr => .inl (h σ' H' F' fp' st ss pr)
  | ct e => exact fun σ' H' F' fp' st ss pr => .inl (h σ' H' F' fp' st ss pr)
  | ret t e => exact fun v σ' H' F' fpe fpv p pr => .inl (h v σ' H' F' fpe fpv p pr)
  | exn x e => exact absurd rfl (hr x e)
theorem WS.noE {r : SR} (h : WS K mg W P D H F fp σ r.noE) : (∀ x e, r ≠ .exn x e) ∧ WS K mg W P D H F fp σ r := by
  cases r with
  | exn x e => exact h.elim
  | bad => exact h.elim
  | nx e => exact ⟨(fun _ _ z => nomatch z), h⟩
  | brk e => exact ⟨(fun _ _ z => nomatch z), h⟩
  | ct e => exact ⟨(fun _ _ z => nomatch z), h⟩
  | ret t e => exact ⟨(fun _ _ z => nomatch z), h⟩
def dictK (k : ITK) : Prop := k = .keys ∨ k = .values ∨ k = .items
theorem items_dict {k : ITK} {x : Rx.D} {xs : List Rx.D} (hk : dictK k) (h : itemsOf k [x] = some xs) : (∃ ds, x = .dic ds) ∨ ∃ ds, x = .din ds := by
  rcases hk with rfl | rfl | rfl <;> (cases x <;> first | exact .inl ⟨_, rfl⟩ | exact .inr ⟨_, rfl⟩ | cases h)
theorem DR.dv {v : V} {x : Rx.D} (hx : (∃ ds, x = .dic ds) ∨ ∃ ds, x = .din ds) (r : DR K mg F v x) : ∃ d u, v = .ref d ∧ Rd F d u ∧ DV K mg F d u x := by
  rcases hx with ⟨ds, rfl⟩ | ⟨ds, rfl⟩
  · cases r with
    | dK h r => exact ⟨_, _, rfl, h, .k r⟩
  · cases r with
    | dN h r => exact ⟨_, _, rfl, h, .n r⟩
end
section
variable {X : Cx} {W : WX} {σ : L2.St} {H F : Hp} {fp : List Addr} {en e1 : Ev} {m : M OT} {q : ITK} {xs : List Rx.D} {t : OT} {R : It → Hp → Prop} {Q : VK}
/-- the value is a dict that is walked: it is locked, or was so before -/
theorem tLk_use (hm : m en = .ok t e1) (hk : dictK q) (hi : itemsOf q [t.view] = some xs) (ss : SS X.K X.mg H F σ en fp)
    (r1 : ∀ H1 F1 fp1 d u o, Stp H F fp H1 F1 fp1 → SS X.K X.mg H1 F1 σ e1 fp1 → DU d u → F1 d = some u → NF X d → ∀ J, DWalk X.K X.mg J (upd F1 d (.frz o u)) xs → R J (upd H1 d (.frz o u)))
    (r2 : ∀ H1 F1 fp1, Stp H F fp H1 F1 fp1 → SS X.K X.mg H1 F1 σ e1 fp1 → ∀ J, DWalk X.K X.mg J F1 xs → R J H1)
    (c : ∀ d u o H' F', H' d = some (.frz o u) → F' d = some (.frz o u) → DV X.K X.mg F' d u t.view → SzU d u → (∀ J, DWalk X.K X.mg J F' xs → R J H') → Q (.ref d) H') : tLk X (tD X.K X.mg W m) σ H Q := by
  refine ⟨F, en, fp, ss, ?_⟩
  rw [hm]
  intro v H1 F1 fpe fpv p
  obtain ⟨q1, q2, q3⟩ := p.frz
  obtain ⟨d, u, rfl, hF, dv⟩ := q3.dv (items_dict hk hi)
  refine ⟨d, u, rfl, dv.du, ?_⟩
  rcases hF with hF | ⟨o, hF⟩
  · exact .inl ⟨q2.le _ _ hF, fun o nf sz => c d u o _ (upd (frzF F1 H1 fpv) d (.frz o u)) upd_same upd_same (dv.lk1 (Lk1.up dv.du (.inl hF) _ (.inr ⟨o, rfl⟩))) sz fun J w => r1 _ _ _ d u o q1 q2 dv.du hF nf J w⟩
  · exact .inr ⟨o, q2.le _ _ hF, fun sz => c d u o _ _ (q2.le _ _ hF) hF dv sz fun J w => r2 _ _ _ q1 q2 J w⟩
theorem tJ_use (hm : m en = .ok t e1) (hk : dictK q) (hi : itemsOf q [t.view] = some xs) (ss : SS X.K X.mg H F σ en fp)
    (r1 : ∀ H1 F1 fp1 d u o, Stp H F fp H1 F1 fp1 → SS X.K X.mg H1 F1 σ e1 fp1 → DU d u → F1 d = some u → NF X d → ∀ J, DWalk X.K X.mg J (upd F1 d (.frz o u)) xs → R J (upd H1 d (.frz o u)))
    (r2 : ∀ H1 F1 fp1, Stp H F fp H1 F1 fp1 → SS X.K X.mg H1 F1 σ e1 fp1 → ∀ J, DWalk X.K X.mg J F1 xs → R J H1) : tJ q (tLk X (tD X.K X.mg W m)) σ H R := by
  have isK : ∀ {u : HO} {d : Addr} {F' : Hp} {ds : List (Rx.D × Rx.D)}, DV X.K X.mg F' d u (.dic ds) → ∃ kvs, u = .dK kvs ∧ DRk X.K X.mg F' kvs ds := fun h => by cases h with | k r => exact ⟨_, rfl, r⟩
  have isN : ∀ {u : HO} {d : Addr} {F' : Hp} {ds : List (Rx.D × Rx.D)}, DV X.K X.mg F' d u (.din ds) → ∃ ys, u = dNO d ys ∧ DRn X.K X.mg F' ys ds := fun h => by cases h with | n r => exact ⟨_, rfl, r⟩
  rcases items_dict hk hi with ⟨ds, hv⟩ | ⟨ds, hv⟩
  · rcases hk with rfl | rfl | rfl
    · refine .inl (tLk_use (q := .keys) hm (.inl rfl) hi ss r1 r2 fun d u o H' F' a1 a2 dv sz k => ?_)
      rw [hv] at dv hi
      obtain ⟨kvs, rfl, r⟩ := isK dv
      exact ⟨d, o, rfl, .inl ⟨kvs, a1, k _ ((dw_ofK hi a2 r (sz.1 _ rfl)).1 rfl)⟩⟩
    · show iVals (tLk X (tD X.K X.mg W m)) σ H R
      refine tLk_use (q := .values) hm (.inr (.inl rfl)) hi ss r1 r2 fun d u o H' F' a1 a2 dv sz k => ?_
      rw [hv] at dv hi
      obtain ⟨kvs, rfl, r⟩ := isK dv
      exact ⟨d, o, kvs, rfl, a1, k _ ((dw_ofK hi a2 r (sz.1 _ rfl)).2.1 rfl)⟩
    · refine .inl (tLk_use (q := .items) hm (.inr (.inr rfl)) hi ss r1 r2 fun d u o H' F' a1 a2 dv sz k => ?_)
      rw [hv] at dv hi
      obtain ⟨kvs, rfl, r⟩ := isK dv
      exact ⟨d, o, kvs, rfl, a1, k _ ((dw_ofK hi a2 r (sz.1 _ rfl)).2.2 rfl)⟩
  · rcases hk with rfl | rfl | rfl
    · refine .inr (tLk_use (q := .keys) hm (.inl rfl) hi ss r1 r2 fun d u o H' F' a1 a2 dv sz k => ?_)
      rw [hv] at dv hi
      obtain ⟨ys, rfl, r⟩ := isN dv
      obtain ⟨J, j1, j2⟩ := dw_ofN (.inl rfl) hi a2 r (sz.2 _ rfl)
      exact ⟨d, o, ys, J, rfl, a1, j1, k J j2⟩
    · rw [hv] at hi; cases hi
    · refine .inr (tLk_use (q := .items) hm (.inr (.inr rfl)) hi ss r1 r2 fun d u o H' F' a1 a2 dv sz k => ?_)
      rw [hv] at dv hi
      obtain ⟨ys, rfl, r⟩ := isN dv
      obtain ⟨J, j1, j2⟩ := dw_ofN (.inr rfl) hi a2 r (sz.2 _ rfl)
      exact ⟨d, o, ys, J, rfl, a1, j1, k J j2⟩
theorem tJ_exn {y : Exn} (hm : m en = .exn y e1) (hk : dictK q) (ss : SS X.K X.mg H F σ en fp) (h : Xc X.K X.mg W σ H F fp y e1) : tJ q (tLk X (tD X.K X.mg W m)) σ H R := by
  have go : ∀ Q : VK, tLk X (tD X.K X.mg W m) σ H Q := fun Q => ⟨F, en, fp, ss, by rw [hm]; exact h⟩
  rcases hk with rfl | rfl | rfl
  · exact .inl (go _)
  · show iVals (tLk X (tD X.K X.mg W m)) σ H R
    exact go _
  · exact .inl (go _)
end
section
variable {X : Cx} {W : WX} {P : Nat → Bool} {pos apos cpos tpos : Pos} {st : Stmt} {k : Nat} {e c tg iter : Expr} {elts : List Expr} {kk : Nat} {te : TE}
theorem ps_fordD {q : ITK} {tgt : TGt} {x : IE} {sb : List IS} (hk : dictK q) (hP : (tgt.has.all fun j => !P j) = true) (hs : PS X st (tFor (tJ q (tLk X (tDX X W (sem x).1))) (gOf X.K tgt) (tSX X W P (run sb)))) :
    PS X st (tSX X W P (run1 (.ford tgt q x sb))) := by
  refine PS.imp (ps_unl hs) fun D σ H h => ?_
  obtain ⟨F, en, fp, ss, h⟩ := h
  have h : WS X.K X.mg W P D H F fp σ ((((sem x).1 en).bind fun t e1 => M.lift (itemsOf q [t.view]) e1).st fun xs e2 => (forGo tgt (run sb) xs e2).noE) := h
  show tJ q (tLk X (tDX X W (sem x).1)) σ H _
  cases hm : (sem x).1 en with
  | bad => rw [hm] at h; exact h.elim
  | exn y e1 => rw [hm] at h; exact tJ_exn hm hk ss (st_xc Stp.refl Pr.refl h)
  | ok t e1 =>
    rw [hm] at h
    have h : WS X.K X.mg W P D H F fp σ ((M.lift (itemsOf q [t.view]) e1).st fun xs e2 => (forGo tgt (run sb) xs e2).noE) := h
    cases hi : itemsOf q [t.view] with
    | none => rw [hi] at h; exact h.elim
    | some xs =>
      rw [hi] at h
      obtain ⟨hne, h2⟩ := WS.noE (show WS X.K X.mg W P D H F fp σ (forGo tgt (run sb) xs e1).noE from h)
      refine tJ_use hm hk hi ss (fun H1 F1 fp1 d u o st ss1 du hF nf J w => ?_) fun H1 F1 fp1 st ss1 J w => ?_
      · exact tFor_core hP w Stp.refl (ss1.lk1 du (.inl hF) _ (.inr ⟨o, rfl⟩)) (WS.lockd du hF (ss1.le _ _ hF) nf hne (WS.step st Pr.refl h2))
      · exact tFor_core hP w Stp.refl ss1 (WS.unl hne (WS.step st Pr.refl h2))
theorem s_fordK {tgt : TGt} {x : IE} {body : List Stmt} {sb : List IS} (c : Cq X W k) (hp : PassesOwn (model X.prog X.w) X.A X.env X.xe) (he : JE X W x iter) (hg : JG X tgt tg) (hb : JSs X W P sb body) (hP : (tgt.has.all fun j => !P j) = true := by rfl) (hs : ∀ x, foldedSetIterable iter X.env x = pure x := by intro _; rfl) :
    JS X W P (.ford tgt .keys x sb) (.For tg iter body [] pos) := ps_fordD (.inl rfl) hP (ps_for hp c.calm (pi_keysJ (pe_lk he)) hg hb hs)
theorem s_fordV {tgt : TGt} {x : IE} {body : List Stmt} {sb : List IS} (c : Cq X W k) (hp : PassesOwn (model X.prog X.w) X.A X.env X.xe) (he : JE X W x e) (hg : JG X tgt tg) (hb : JSs X W P sb body) (hP : (tgt.has.all fun j => !P j) = true := by rfl) (hs : ∀ x, foldedSetIterable (.Call (.Attribute e "values" apos) [] [] cpos) X.env x = pure x := by intro _; rfl)
    (hbase : attributeBase e "values" X.env (eval e X.env) = eval e X.env := by rfl) (hline : (apos.endLine == cpos.line) = true := by rfl) :
    JS X W P (.ford tgt .values x sb) (.For tg (.Call (.Attribute e "values" apos) [] [] cpos) body [] pos) := ps_fordD (.inr (.inl rfl)) hP (ps_for hp c.calm (pi_valuesJ (pe_lk he) hbase hline) hg hb hs)
theorem s_fordI {tgt : TGt} {x : IE} {body : List Stmt} {sb : List IS} (c : Cq X W k) (hp : PassesOwn (model X.prog X.w) X.A X.env X.xe) (he : JE X W x e) (hg : JG X tgt (.Tuple elts kk tpos)) (hb : JSs X W P sb body) (hP : (tgt.has.all fun j => !P j) = true := by rfl) (hs : ∀ x, foldedSetIterable (.Call (.Attribute e "items" apos) [] [] cpos) X.env x = pure x := by intro _; rfl)
    (hbase : attributeBase e "items" X.env (eval e X.env) = eval e X.env := by rfl) (hline : (apos.endLine == cpos.line) = true := by rfl) :
    JS X W P (.ford tgt .items x sb) (.For (.Tuple elts kk tpos) (.Call (.Attribute e "items" apos) [] [] cpos) body [] pos) := ps_fordD (.inr (.inr rfl)) hP (ps_for hp c.calm (pi_itemsJ (pe_lk he) hbase hline) hg hb hs)
end
end Rx
end

section
/-! Rx, part 32: dict comprehensions whose keys are tuples; comprehensions over dicts. -/
namespace Rx
open PySem PySem.Spec PyProof.Rows L2
variable [Prw]
/-- what one key and its value do to the new dict -/
def putR (K : PySem.W.Frag) (mg : Str → Option Value) (B : Addr) (y z : V) (H : Hp) (Nx : Hp → Prop) : Prop :=
  ∃ (F : Hp) (xs : List (D × Addr × V)) (ds : List (D × D)) (d : D) (b : Addr), Same F H ∧ H B = some (dNO B xs) ∧ DRn K mg F xs ds ∧ isKeyN d = true ∧ DR K mg F y d ∧ y = .ref b ∧ xs.length < sizeLine ∧ Nx (upd H B (dNO B (putN xs d b z)))
/-- one turn: the target, the key, the value -/
def turnR (K : PySem.W.Frag) (mg : Str → Option Value) (g : TG) (tk tv : TE) (vs : List Nat) (σ : L2.St) (B : Addr) (Nx : Hp → Prop) (x : V) (H : Hp) : Prop :=
  g x (L2.wipe σ vs) H fun σ2 H2 => L2.wipe σ2 vs = L2.wipe σ vs ∧ tk σ2 H2 fun y H3 => tv σ2 H3 fun z H4 => putR K mg B y z H4 Nx
def tDcN (K : PySem.W.Frag) (mg : Str → Option Value) (wi : TI) (g : TG) (tk tv : TE) (vs : List Nat) : TE := fun σ H Q => wi σ H fun J H1 => ∀ B, H1 B = none → ∃ T : Nat → Nat → Hp → Prop, (∃ m, T 0 m (upd H1 B (dNO B []))) ∧
  ∀ i m H, T i m H → (J.stop i H ∧ Q (.ref B) H) ∨ (J.go i H ∧ ∃ Nx : Hp → Prop, (∀ H', Nx H' → ∃ m', m' < m ∧ T (i + 1) m' H') ∧ ∀ x H', J.yld i H x H' → turnR K mg g tk tv vs σ B Nx x H')
section
variable {X : Cx} {kx vx tg iter : Expr} {sc : Scope} {own : List (Str × Nat)} {pos : Pos} {wi : TI} {g : TG} {tk tv : TE}
/-- the record's own place, seen from the block -/
theorem blk_fp {s3 s' : Shared} {H3 H' : Hp} {ce : Env} {fp : List Addr} {σ' : L2.St} (Ib : Inv (X.blk s3 H3 sc ce fp) [] σ' H' s') (free : ∀ b ∈ fp, H' b = none) (b : Addr) (hb : b ∈ fp) : FpOk (X.blk s3 H3 sc ce fp) [] H' b := by
  obtain ⟨a1, a2⟩ := Ib.ok.exf b hb
  exact ⟨free b hb, a1, Ib.ok.exfs b hb, .inl hb, a2, fun p hp => by simp [Cx.blk] at hp⟩
/-- a turn is over: the block stands as ahead of it -/
theorem blk_next {s3 s7 s' : Shared} {H3 H' : Hp} {ce : Env} {fp : List Addr} {it : Addr} {J : It} {tn : Nat → Heap → Prop} {i : Nat} {σ σ8 : L2.St} (T : Turn X.prog X.w X.K tg J fp it tn) (st7 : tn i s7.heap) (hw : L2.wipe σ8 (own.map (·.2)) = L2.wipe σ (own.map (·.2)))
    (Ib : Inv (X.blk s3 H3 sc ce fp) ([] ++ pinsAt fp s7.heap) σ8 H' s') : Inv (X.blk s3 H3 sc ce fp) [] (L2.wipe σ (own.map (·.2))) H' s' ∧ tn i s'.heap ∧ ∀ b ∈ fp, H' b = none := by
  have held : ∀ b ∈ fp, ∀ o, s7.heap.get? b = some o → s'.heap.get? b = some o ∧ H' b = none := fun b hb o e => by
    have z := Ib.pin (b, o) (List.mem_append_right _ (List.mem_append_right _ (mem_pinsAt hb e)))
    exact ⟨z.1, z.2.1⟩
  refine ⟨Ib.unpinned.weak (by rw [← hw, L2.wipe_length]) fun j v e => (wipe_some (by rw [hw]; exact e)).1, T.keep _ _ _ st7 fun b hb o e => (held b hb o e).1, fun b hb => ?_⟩
  obtain ⟨o, e, _⟩ := T.obj _ _ st7 b hb
  exact (held b hb o e).2
theorem pe_dcN (hP : Prw.P = X.prog) (hw : Prw.w = X.w) (hu : X.A.units + 64 < cLine) (hc : X.calm = true) (hN : X.N.Nodup) (hi : PI X tg iter wi) (ok : BlkOk X.N X.env.scope sc own)
    (hg : ∀ (s : Shared) (H : Hp) (C : Addr) (cl : List (Str × Addr)) (fp : List Addr), PG (X.blk s H sc (compEnvC sc cl C X.env) fp) tg g)
    (hk : ∀ (s : Shared) (H : Hp) (C : Addr) (cl : List (Str × Addr)) (fp : List Addr), PE (X.blk s H sc (compEnvC sc cl C X.env) fp) kx tk)
    (he : ∀ (s : Shared) (H : Hp) (C : Addr) (cl : List (Str × Addr)) (fp : List Addr), PE (X.blk s H sc (compEnvC sc cl C X.env) fp) vx tv) (hs : ∀ x, foldedSetIterable iter X.env x = pure x) :
    PE X (.DictComp kx vx [⟨tg, iter, [], 0⟩] sc pos) (tDcN X.K X.mg wi g tk tv (own.map (·.2))) := by
  refine ⟨fun pins s σ H Q I h => ?_⟩
  rw [arm_eval_DictComp]
  have clo : ∀ y ∈ sc.names, y.2 = .free → ∃ c, X.env.cells.lookup y.1 = some c := fun y hy e => (ok.free y hy e).elim (fun z => I.ok.has _ (.inl z)) fun z => I.ok.has _ (.inr z)
  refine wpAny_comprehension_free (use := none) rfl hs (closure_ok clo) ok.kind (fun y hy e => (ok.uniq y hy).trans (congrArg some e)) (thn (hi.run pins s σ H _ I h) fun u0 s1 z1 => thn z1 fun u1 s2 z2 => ?_)
  obtain ⟨it, fp, tn, J, H2, rfl, I2, T, st2, f2, q⟩ := z2
  refine wpAny_newObj_type (newEnv_comp ?_)
  have new : H2 s2.heap.objs.size = none := I2.hok.fresh (Nat.le_refl _)
  obtain ⟨inv, ⟨m0, w0⟩, turn⟩ := q _ new
  have I3 := I2.laid (t' := s2.toks) (a := s2.heap.objs.size) (o := dNO s2.heap.objs.size []) (h' := s2.heap.push { cls := .type "dict", data := .dict #[] }) (fun b u e => Heap.get?_push_of_some _ e) (Nat.le_refl _) (dn_empty s2.heap I2.big)
  generalize hB : s2.heap.objs.size = B at *
  have low : ∀ b ∈ fp, b < B := fun b hb => by
    obtain ⟨u, e, _⟩ := T.obj _ _ st2 b hb
    rw [← hB]; exact Heap.lt_size e
  have fps : ∀ b ∈ fp, FpOk X pins (upd H2 B (dNO B [])) b ∧ b < (s2.heap.push { cls := .type "dict", data := .dict #[] }).objs.size := fun b hb =>
    ⟨⟨(upd_ne (Nat.ne_of_lt (low b hb))).trans (f2 b hb).1, (f2 b hb).2⟩, by rw [Heap.size_push, hB]; exact Nat.lt_succ_of_lt (low b hb)⟩
  have st3 : tn 0 (s2.heap.push { cls := .type "dict", data := .dict #[] }) := T.keep _ _ _ st2 fun b _ u e => Heap.get?_push_of_some _ e
  generalize hs3 : ({ s2 with heap := s2.heap.push { cls := .type "dict", data := .dict #[] } } : Shared) = s3 at *
  have h3 : s3.heap = s2.heap.push { cls := .type "dict", data := .dict #[] } := by rw [← hs3]
  rw [← h3] at fps st3
  have I4 := block_start I3 ok hN fps
  have g1 := hg s3 (upd H2 B (dNO B [])) s3.heap.objs.size (cellsFrom (s3.heap.objs.size + 1) sc.names (cloFrom X.env.cells sc.names [])) fp
  have k1 := hk s3 (upd H2 B (dNO B [])) s3.heap.objs.size (cellsFrom (s3.heap.objs.size + 1) sc.names (cloFrom X.env.cells sc.names [])) fp
  have v1 := he s3 (upd H2 B (dNO B [])) s3.heap.objs.size (cellsFrom (s3.heap.objs.size + 1) sc.names (cloFrom X.env.cells sc.names [])) fp
  show codeAny _ _ (.compStart (.DictComp kx vx [⟨tg, iter, [], 0⟩] sc pos) 0 (.ref it) (.ref B) (compEnvC sc (cellsFrom (s3.heap.objs.size + 1) sc.names (cloFrom X.env.cells sc.names [])) s3.heap.objs.size X.env)) (compPost (model X.prog X.w) X.A X.xe none (EP X pins σ Q) (.ref B) s3.heap.objs.size) { s3 with heap := pushCells (s3.heap.push { cls := .type "dict", data := .dict #[] }) sc.names }
  have eL : (compEnvC sc (cellsFrom (s3.heap.objs.size + 1) sc.names (cloFrom X.env.cells sc.names [])) s3.heap.objs.size X.env).locals = s3.heap.objs.size := rfl
  generalize compEnvC sc (cellsFrom (s3.heap.objs.size + 1) sc.names (cloFrom X.env.cells sc.names [])) s3.heap.objs.size X.env = ce at *
  have free3 : ∀ b ∈ fp, upd H2 B (dNO B []) b = none := fun b hb => (fps b hb).1.1
  generalize upd H2 B (dNO B []) = H3 at *
  have st4 : tn 0 ({ s3 with heap := pushCells (s3.heap.push { cls := .type "dict", data := .dict #[] }) sc.names } : Shared).heap := T.keep _ _ _ st3 fun b _ u e => pushCells_keeps _ _ _ _ (Heap.get?_push_of_some _ e)
  generalize ({ s3 with heap := pushCells (s3.heap.push { cls := .type "dict", data := .dict #[] }) sc.names } : Shared) = s4 at *
  have loop : codeAny (model X.prog X.w) X.A (.compLoop (.DictComp kx vx [⟨tg, iter, [], 0⟩] sc pos) 0 (.ref it) (.ref B) ce) (compPost (model X.prog X.w) X.A X.xe none (EP X pins σ Q) (.ref B) s3.heap.objs.size) s4 := by
    refine compLoop_anyD (fun m t => ∃ i Ht, Inv (X.blk s3 H3 sc ce fp) [] (L2.wipe σ (own.map (·.2))) Ht t ∧ tn i t.heap ∧ (∀ b ∈ fp, Ht b = none) ∧ inv i m Ht) ?_ m0 ⟨0, H3, I4, st4, free3, w0⟩
    rintro m s5 ⟨i, H5, I5, st5, n5, w5⟩
    rcases turn i m H5 w5 with ⟨hstop, fin⟩ | ⟨hgo, Nx, back, step⟩
    · refine thnF (T.done (X.blk s3 H3 sc ce fp) rfl rfl rfl hc i [] s5 _ H5 (fun _ _ => False) I5 (blk_fp I5 n5) st5 hstop) fun r t ⟨er, It⟩ => ?_
      subst er
      have out : Inv X pins σ H5 t := I3.call' (ch := fp) It.os It.base It.hok It.bare fun b hb => by
        obtain ⟨_, x2, _, x4, x5, x6⟩ := (fps b hb).1
        exact ⟨x4, x2, x5, x6⟩
      obtain ⟨mm, ns, _⟩ := It.loc
      have ns : t.heap.Ns ce.locals mm := ns
      have nl : H5 ce.locals = none := It.free
      rw [eL] at ns nl
      have fC := I3.fpOk (Nat.le_refl _) nl
      exact ⟨mm, ns, fun h'' sb => ⟨.ref B, H5, out.turned (t' := t.toks) (fun b u hb e => (sb.2 b hb).trans e) fC.1 fC.2.1 fC.2.2.2.1 fC.2.2.2.2.1 fC.2.2.2.2.2, rfl, fin⟩⟩
    · refine thnF (T.item (X.blk s3 H3 sc ce fp) rfl rfl rfl hc i [] s5 _ H5 (fun _ _ => False) I5 (blk_fp I5 n5) st5 hgo) fun r t ⟨u, er, z⟩ => ?_
      subst er
      refine thnF z fun _ s7 ⟨x, H7, I7, r7, y7, st7, n7⟩ => ?_
      refine thnF (g1.run _ s7 _ H7 x u _ (I7.pinned (blk_fp I7 n7) (T.obj _ _ st7)) r7 (step x H7 y7)) fun _ s8 ⟨σ8, H8, I8, e8, q8⟩ => ?_
      show wpAny _ _ (pure true) _ _ _
      refine wpAny_pure ?_
      rw [if_pos rfl]
      refine thnF (k1.run _ s8 σ8 H8 _ I8 q8) fun ku s9 ⟨y, H9, I9, r9, q9⟩ => thnF (v1.run _ s9 σ8 H9 _ I9 q9) fun vu s10 ⟨z, H10, I10, r10, q10⟩ => ?_
      obtain ⟨F, xs, ds, d, b, le, a1, a2, a3, a4, rfl, a6, nx⟩ := q10
      refine n_dictSet (X := X.blk s3 H3 sc ce fp) hP hw hu I10 le a1 a2 a3 a4 r9 r10 a6 fun b' s11 eb I11 => ?_
      cases eb
      obtain ⟨m', lt, w'⟩ := back _ nx
      obtain ⟨c1, c2, c3⟩ := blk_next T st7 e8 I11
      exact ⟨m', lt, i + 1, _, c1, c2, c3, w'⟩
  exact codeAny_compStart_dict loop (T.self X.A 0 _ _ _ st4 loop)
end
end Rx
end

section
/-! Rx, part 33: the rules for comprehensions over dicts, and for dicts of tuple keys. -/
namespace Rx
open PySem PySem.Spec PyProof.Rows L2
variable [Prw]
/-! ### nothing is raised within -/
theorem bind_ne {α β : Type} {r : R α} {f : α → Ev → R β} (h1 : ∀ x e, r ≠ .exn x e) (h2 : ∀ a e' x e, f a e' ≠ .exn x e) : ∀ x e, r.bind f ≠ .exn x e := fun x e => by
  cases r with
  | bad => exact fun z => nomatch z
  | ok a e' => exact h2 a e' x e
  | exn y e' => exact absurd rfl (h1 y e')
theorem noX_ne {α : Type} {r : R α} : ∀ x e, noX r ≠ .exn x e := fun x e => by cases r <;> exact fun z => nomatch z
theorem lcGo_ne {own : List Nat} {tg : TGt} {mc : M Bool} {me : M OT} : ∀ (xs acc : List D) (e0 : Ev) (x : Exn) (e : Ev), lcGo own tg mc me xs acc e0 ≠ .exn x e
  | [], acc, e0, x, e => fun z => nomatch z
  | d :: xs, acc, e0, x, e => by
    show (match bindT tg d (wipeE e0 own) with | none => R.bad | some e1 => _) ≠ _
    cases bindT tg d (wipeE e0 own) with
    | none => exact fun z => nomatch z
    | some e1 =>
      refine bind_ne noX_ne (fun b e2 y e' => ?_) x e
      cases b with
      | false => exact lcGo_ne xs acc e2 y e'
      | true => exact bind_ne noX_ne (fun t e3 y e' => lcGo_ne xs _ e3 y e') y e'
theorem lcRun_ne {own : List Nat} {tg : TGt} {mc : M Bool} {me : M OT} {xs : List D} {e0 : Ev} : ∀ (x : Exn) (e : Ev), lcRun own tg mc me xs e0 ≠ .exn x e := fun x e => by
  show (match ownOk e0 own with | true => _ | false => R.bad) ≠ _
  cases ownOk e0 own with
  | false => exact fun z => nomatch z
  | true => exact bind_ne (lcGo_ne xs [] e0) (fun a e' y e2 z => by cases z) x e
theorem dcGo_ne {own : List Nat} {tg : TGt} {mk mv : M OT} : ∀ (xs : List D) (acc : List (D × D)) (e0 : Ev) (x : Exn) (e : Ev), dcGo own tg mk mv xs acc e0 ≠ .exn x e
  | [], acc, e0, x, e => fun z => nomatch z
  | d :: xs, acc, e0, x, e => by
    show (match bindT tg d (wipeE e0 own) with | none => R.bad | some e1 => _) ≠ _
    cases bindT tg d (wipeE e0 own) with
    | none => exact fun z => nomatch z
    | some e1 =>
      refine bind_ne noX_ne (fun t e2 y e' => bind_ne noX_ne (fun u e3 y e' => ?_) y e') x e
      split
      · exact dcGo_ne xs _ e3 y e'
      · exact fun z => nomatch z
theorem dcRun_ne {own : List Nat} {tg : TGt} {mk mv : M OT} {xs : List D} {e0 : Ev} : ∀ (x : Exn) (e : Ev), dcRun own tg mk mv xs e0 ≠ .exn x e := fun x e => by
  show (match ownOk e0 own with | true => _ | false => R.bad) ≠ _
  cases ownOk e0 own with
  | false => exact fun z => nomatch z
  | true => exact bind_ne (dcGo_ne xs [] e0) (fun a e' y e2 z => by cases z) x e
section
variable {K : PySem.W.Frag} {mg : Str → Option Value} {W : WX} {σ : L2.St} {H F H' F' H1 F1 : Hp} {fp fp1 : List Addr} {e1 : Ev}
theorem WP.lockd {X : Cx} {d : Addr} {u : HO} {o : Obj} {r : R OT} {Q : VK} (du : DU d u) (hF : F d = some u) (hH : H d = some u) (nf : NF X d) (hr : ∀ x e, r ≠ .exn x e) (h : WP K mg W σ H F fp r (FinV K mg H F fp σ Q)) :
    WP K mg W σ (upd H d (.frz o u)) (upd F d (.frz o u)) fp r (FinV K mg (upd H d (.frz o u)) (upd F d (.frz o u)) fp σ (unlQ X Q)) := by
  cases r with
  | bad => exact h
  | exn x e => exact absurd rfl (hr x e)
  | ok t e =>
    intro v H' F' fpe fpv p
    exact .inr ⟨d, o, u, p.ss.le d _ (p.st.fz d _ upd_same), nf, h v _ _ fpe fpv (VPost.lk1 du hF hH p)⟩
theorem WP.unl {X : Cx} {r : R OT} {Q : VK} (hr : ∀ x e, r ≠ .exn x e) (h : WP K mg W σ H F fp r (FinV K mg H F fp σ Q)) : WP K mg W σ H F fp r (FinV K mg H F fp σ (unlQ X Q)) := by
  cases r with
  | bad => exact h
  | exn x e => exact absurd rfl (hr x e)
  | ok t e => exact fun v H' F' fpe fpv p => .inl (h v H' F' fpe fpv p)
theorem WP.finStep {r : R OT} {Q : VK} (s : Stp H F fp H1 F1 fp1) (hr : ∀ x e, r ≠ .exn x e) (h : WP K mg W σ H F fp r (FinV K mg H F fp σ Q)) : WP K mg W σ H1 F1 fp1 r (FinV K mg H1 F1 fp1 σ Q) := by
  cases r with
  | bad => exact h
  | exn x e => exact absurd rfl (hr x e)
  | ok t e => exact FinV.step s h
end
section
variable {X : Cx} {W : WX} {P : Nat → Bool} {pos apos cpos tpos py spos : Pos} {k : Nat} {e elt kx vx tg iter : Expr} {elts : List Expr} {kk : Nat} {sc : Scope} {tgt : TGt} {q : ITK} {x y xk xv : IE} {cc : Option IE} {own : List (Str × Nat)} {σ : L2.St} {H : Hp} {Q : VK}
theorem lcD_use {ow : List Nat} (hk : dictK q) (ht : (tgt.has.all fun j => ow.contains j) = true) (h : tDX X W (sem (.lcD tgt q x cc y ow)).1 σ H Q) :
    tLc (tJ q (tLk X (tDX X W (sem x).1))) (gOf X.K tgt) (tDb X.K X.mg W0 (semOpt cc)) (tD X.K X.mg W0 (sem y).1) ow σ H (unlQ X Q) := by
  obtain ⟨F, en, fp, ss, h⟩ := h
  have h : WP X.K X.mg W σ H F fp (((sem x).1 en).bind fun t e1 => (M.lift (itemsOf q [t.view]) e1).bind fun xs e2 => lcRun ow tgt (semOpt cc) (sem y).1 xs e2) (FinV X.K X.mg H F fp σ Q) := h
  show tJ q (tLk X (tDX X W (sem x).1)) σ H _
  cases hm : (sem x).1 en with
  | bad => rw [hm] at h; exact h.elim
  | exn z e1 => rw [hm] at h; exact tJ_exn hm hk ss h
  | ok t e1 =>
    rw [hm] at h
    cases hi : itemsOf q [t.view] with
    | none => simp only [R.bind, hi, M.lift_none] at h; exact h.elim
    | some xs =>
      simp only [R.bind, hi, M.lift_some] at h
      refine tJ_use hm hk hi ss (fun H1 F1 fp1 d u o st ss1 du hF nf J w => ?_) fun H1 F1 fp1 st ss1 J w => ?_
      · exact lc_coreD ht w Stp.refl (ss1.lk1 du (.inl hF) _ (.inr ⟨o, rfl⟩)) (WP.lockd du hF (ss1.le _ _ hF) nf lcRun_ne (WP.finStep st lcRun_ne h))
      · exact lc_coreD ht w Stp.refl ss1 (WP.unl lcRun_ne (WP.finStep st lcRun_ne h))
theorem dcD_use {ow : List Nat} (hk : dictK q) (ht : (tgt.has.all fun j => ow.contains j) = true) (h : tDX X W (sem (.dcD tgt q x xk xv ow)).1 σ H Q) :
    tDc (tJ q (tLk X (tDX X W (sem x).1))) (gOf X.K tgt) tYes (tD X.K X.mg W0 (sem xk).1) (tD X.K X.mg W0 (sem xv).1) ow σ H (unlQ X Q) := by
  obtain ⟨F, en, fp, ss, h⟩ := h
  have h : WP X.K X.mg W σ H F fp (((sem x).1 en).bind fun t e1 => (M.lift (itemsOf q [t.view]) e1).bind fun xs e2 => dcRun ow tgt (sem xk).1 (sem xv).1 xs e2) (FinV X.K X.mg H F fp σ Q) := h
  show tJ q (tLk X (tDX X W (sem x).1)) σ H _
  cases hm : (sem x).1 en with
  | bad => rw [hm] at h; exact h.elim
  | exn z e1 => rw [hm] at h; exact tJ_exn hm hk ss h
  | ok t e1 =>
    rw [hm] at h
    cases hi : itemsOf q [t.view] with
    | none => simp only [R.bind, hi, M.lift_none] at h; exact h.elim
    | some xs =>
      simp only [R.bind, hi, M.lift_some] at h
      refine tJ_use hm hk hi ss (fun H1 F1 fp1 d u o st ss1 du hF nf J w => ?_) fun H1 F1 fp1 st ss1 J w => ?_
      · exact dc_coreD ht w Stp.refl (ss1.lk1 du (.inl hF) _ (.inr ⟨o, rfl⟩)) (WP.lockd du hF (ss1.le _ _ hF) nf dcRun_ne (WP.finStep st dcRun_ne h))
      · exact dc_coreD ht w Stp.refl ss1 (WP.unl dcRun_ne (WP.finStep st dcRun_ne h))
/-- the iterable, by its kind -/
inductive JD (X : Cx) (W : WX) (x : IE) : ITK → Expr → Expr → Prop
  | k {tg e : Expr} : JE X W x e → JD X W x .keys tg e
  | v {tg e : Expr} {apos cpos : Pos} : JE X W x e → attributeBase e "values" X.env (eval e X.env) = eval e X.env → (apos.endLine == cpos.line) = true → JD X W x .values tg (.Call (.Attribute e "values" apos) [] [] cpos)
  | i {elts : List Expr} {kk : Nat} {tpos : Pos} {e : Expr} {apos cpos : Pos} : JE X W x e → attributeBase e "items" X.env (eval e X.env) = eval e X.env → (apos.endLine == cpos.line) = true → JD X W x .items (.Tuple elts kk tpos) (.Call (.Attribute e "items" apos) [] [] cpos)
theorem JD.pi {tg e : Expr} (h : JD X W x q tg e) : dictK q ∧ PI X tg e (tJ q (tLk X (tDX X W (sem x).1))) := by
  cases h with
  | k he => exact ⟨.inl rfl, pi_keysJ (pe_lk he)⟩
  | v he h1 h2 => exact ⟨.inr (.inl rfl), pi_valuesJ (pe_lk he) h1 h2⟩
  | i he h1 h2 => exact ⟨.inr (.inr rfl), pi_itemsJ (pe_lk he) h1 h2⟩
theorem jd_k {tg e : Expr} (he : JE X W x e) : JD X W x .keys tg e := .k he
theorem jd_v {tg e : Expr} (he : JE X W x e) (hb : attributeBase e "values" X.env (eval e X.env) = eval e X.env := by rfl) (hl : (apos.endLine == cpos.line) = true := by rfl) : JD X W x .values tg (.Call (.Attribute e "values" apos) [] [] cpos) := .v he hb hl
theorem jd_i {e : Expr} (he : JE X W x e) (hb : attributeBase e "items" X.env (eval e X.env) = eval e X.env := by rfl) (hl : (apos.endLine == cpos.line) = true := by rfl) : JD X W x .items (.Tuple elts kk tpos) (.Call (.Attribute e "items" apos) [] [] cpos) := .i he hb hl
theorem s_ford {body : List Stmt} {sb : List IS} (c : Cq X W k) (hp : PassesOwn (model X.prog X.w) X.A X.env X.xe) (he : JD X W x q tg iter) (hg : JG X tgt tg) (hb : JSs X W P sb body) (hP : (tgt.has.all fun j => !P j) = true := by rfl) (hs : ∀ x, foldedSetIterable iter X.env x = pure x := by intro _; rfl) :
    JS X W P (.ford tgt q x sb) (.For tg iter body [] pos) := ps_fordD he.pi.1 hP (ps_for hp c.calm he.pi.2 hg hb hs)
theorem e_lcD {ifs : List Expr} (c : Cq X W k) (hd : JD X W x q tg iter) (hg : ∀ (s : Shared) (H : Hp) (C : Addr) (cl : List (Str × Addr)) (fp : List Addr), JG (X.blk s H sc (compEnvC sc cl C X.env) fp) tgt tg)
    (ht : ∀ (s : Shared) (H : Hp) (C : Addr) (cl : List (Str × Addr)) (fp : List Addr), JC (X.blk s H sc (compEnvC sc cl C X.env) fp) W0 cc ifs) (he : ∀ (s : Shared) (H : Hp) (C : Addr) (cl : List (Str × Addr)) (fp : List Addr), JE (X.blk s H sc (compEnvC sc cl C X.env) fp) W0 y elt)
    (ok : blkC X.N X.env.scope sc own = true := by rfl) (hw : (tgt.has.all fun j => (own.map (·.2)).contains j) = true := by rfl) (hs : ∀ x, foldedSetIterable iter X.env x = pure x := by intro _; rfl) : JE X W (.lcD tgt q x cc y (own.map (·.2))) (.ListComp elt [⟨tg, iter, ifs, 0⟩] sc pos) :=
  PE.imp (pe_unl (pe_lc (g := gOf X.K tgt) (tt := tDb X.K X.mg W0 (semOpt cc)) (te := tD X.K X.mg W0 (sem y).1) c.calm c.nd hd.pi.2 (blkOk_by ok) hg ht he hs)) fun σ H Q h => lcD_use hd.pi.1 hw h
theorem e_dcD (c : Cq X W k) (hd : JD X W x q tg iter) (hg : ∀ (s : Shared) (H : Hp) (C : Addr) (cl : List (Str × Addr)) (fp : List Addr), JG (X.blk s H sc (compEnvC sc cl C X.env) fp) tgt tg)
    (hk : ∀ (s : Shared) (H : Hp) (C : Addr) (cl : List (Str × Addr)) (fp : List Addr), JE (X.blk s H sc (compEnvC sc cl C X.env) fp) W0 xk kx) (he : ∀ (s : Shared) (H : Hp) (C : Addr) (cl : List (Str × Addr)) (fp : List Addr), JE (X.blk s H sc (compEnvC sc cl C X.env) fp) W0 xv vx)
    (ok : blkC X.N X.env.scope sc own = true := by rfl) (hw : (tgt.has.all fun j => (own.map (·.2)).contains j) = true := by rfl) (hs : ∀ x, foldedSetIterable iter X.env x = pure x := by intro _; rfl) : JE X W (.dcD tgt q x xk xv (own.map (·.2))) (.DictComp kx vx [⟨tg, iter, [], 0⟩] sc pos) :=
  PE.imp (pe_unl (pe_dc (g := gOf X.K tgt) (tt := tYes) (tk := tD X.K X.mg W0 (sem xk).1) (tv := tD X.K X.mg W0 (sem xv).1) c.calm c.nd hd.pi.2 (blkOk_by ok) hg (fun _ _ _ _ _ => pts_nil) hk he hs)) fun σ H Q h => dcD_use hd.pi.1 hw h
end
end Rx
end

section
/-! Rx, part 34: dict comprehensions of tuple keys; sorted, of such a dict. -/
namespace Rx
open PySem PySem.Spec PyProof.Rows L2
variable [Prw]
section
variable {W : WX}
theorem dcn_core {K : PySem.W.Frag} {mg : Str → Option Value} {tgt : TGt} {mk mv : M OT} {own : List Nat} {σ : L2.St} {H F H1 F1 : Hp} {fp fp1 : List Addr} {e1 : Ev} {J : It} {xs : List D} {Q : VK} (ht : (tgt.has.all fun j => own.contains j) = true)
    (wk : DWalk K mg J F1 xs) (s1 : Stp H F fp H1 F1 fp1) (ss1 : SS K mg H1 F1 σ e1 fp1) (h : WP K mg W σ H F fp (dcRunN own tgt mk mv xs e1) (FinV K mg H F fp σ Q)) : tDcN K mg (fun _ H R => R J H) (gOf K tgt) (tD K mg W0 mk) (tD K mg W0 mv) own σ H1 Q := by
  intro L hL
  have h : WP K mg W σ H F fp (dcRunN own tgt mk mv xs e1) (FinV K mg H F fp σ Q) := h
  unfold dcRunN at h
  cases hok : ownOk e1 own with
  | false => rw [hok] at h; exact h.elim
  | true =>
    rw [hok] at h
    have hnd := ownOk_nodup hok
    have hod := own_data hok ss1.env
    -- the invariant
    refine ⟨fun i m H2 => i ≤ xs.length ∧ m = xs.length - i ∧ ∃ F2 e2 fp2 vacc acc, Stp H1 F1 fp1 H2 F2 (L :: fp2) ∧ SS K mg H2 F2 (L2.wipe σ own) (wipeE e2 own) fp2 ∧ H2 L = some (dNO L vacc) ∧ F2 L = none ∧ L ∉ fp2 ∧ DRn K mg F2 vacc acc ∧
      WP K mg W σ H F fp ((dcGoN own tgt mk mv (xs.drop i) acc e2).bind fun acc e' => .ok (.din acc) (restE e1 (wipeE e' own) own)) (FinV K mg H F fp σ Q), ?_, ?_⟩
    · obtain ⟨fp2, g1, g2⟩ := ss1.env.wipe own
      refine ⟨xs.length, Nat.zero_le _, rfl, F1, e1, fp2, [], [], ?_, ⟨same_new ss1.le hL, ?_, fun a ha => ss1.own a (g2 a ha)⟩, upd_same, Same.free ss1.le hL, fun z => ?_, .nil, h⟩
      · exact (Stp.newO hL).sub fun a ha => (List.mem_cons.mp ha).elim (fun z => by rw [z]; exact List.mem_cons_self) fun z => List.mem_cons_of_mem _ (g2 a z)
      · exact g1.keep (Same.refl _) fun a ha o q => by rw [upd_ne (ne_of_none q hL)]; exact q
      · obtain ⟨o, q⟩ := g1.there L z
        rw [hL] at q; cases q
    · rintro i m H2 ⟨hi, rfl, F2, e2, fp2, vacc, acc, s2, ss2, hLv, hLF, hLn, racc, h2⟩
      have wk2 : DWalk K mg J F2 xs := wk.mono s2.fz
      by_cases hlt : i < xs.length
      · refine .inr ⟨wk2.goes i H2 ss2.le hlt, ?_⟩
        have hd : xs.drop i = xs[i] :: xs.drop (i + 1) := List.drop_eq_getElem_cons hlt
        rw [hd] at h2
        refine ⟨fun H5 => ∃ F5 e5 fp5 vacc5 acc5, Stp H1 F1 fp1 H5 F5 (L :: fp5) ∧ SS K mg H5 F5 (L2.wipe σ own) (wipeE e5 own) fp5 ∧ H5 L = some (dNO L vacc5) ∧ F5 L = none ∧ L ∉ fp5 ∧ DRn K mg F5 vacc5 acc5 ∧
          WP K mg W σ H F fp ((dcGoN own tgt mk mv (xs.drop (i + 1)) acc5 e5).bind fun acc e' => .ok (.din acc) (restE e1 (wipeE e' own) own)) (FinV K mg H F fp σ Q), ?_, ?_⟩
        · rintro H5 ⟨F5, e5, fp5, vacc5, acc5, k1, k2, k3, k4, k5, k6, k7⟩
          exact ⟨xs.length - (i + 1), by omega, hlt, rfl, F5, e5, fp5, vacc5, acc5, k1, k2, k3, k4, k5, k6, k7⟩
        · intro x H3 hy
          obtain ⟨d, F3, hd1, st3, le3, rd⟩ := wk2.yields i H2 x H3 F2 (Same.refl _) ss2.le hlt hy
          have hd2 : xs[i] = d := Option.some.inj ((List.getElem?_eq_getElem hlt).symm.trans hd1)
          rw [hd2] at h2
          -- the state behind the item
          obtain ⟨k1, k2, k3⟩ := st3.held ss2.env.there (fun a _ q => nomatch q) ss2.own
          have hL3 : H3 L = some (dNO L vacc) := st3.ke L _ hLv fun z => nomatch z
          have hLF3 : F3 L = none := (st3.held (gp := [L]) (fun a ha => by
            have : a = L := by simpa using ha
            rw [this]; exact ⟨_, hLv⟩) (fun a _ q => nomatch q) (fun a ha => by
            have : a = L := by simpa using ha
            rw [this]; exact hLF)).2.1 L List.mem_cons_self
          have ss3 : SS K mg H3 F3 (L2.wipe σ own) (wipeE e2 own) fp2 := ⟨le3, ss2.env.keep st3.fz k1, k2⟩
          have s3 : Stp H1 F1 fp1 H3 F3 (L :: fp2) := s2.trans (by simpa using st3.frame (gp := L :: fp2))
          cases hb : bindT tgt d (wipeE e2 own) with
          | none =>
            have : dcGoN own tgt mk mv (d :: xs.drop (i + 1)) acc e2 = .bad := by
              show (match bindT tgt d (wipeE e2 own) with | none => _ | some e1 => _) = _
              rw [hb]
            rw [this] at h2
            exact h2.elim
          | some e3 =>
            have eq : dcGoN own tgt mk mv (d :: xs.drop (i + 1)) acc e2 = (noX (mk e3)).bind fun t e4 => (noX (mv e4)).bind fun u e5 => if isKeyN t.view = true ∧ acc.length < sizeMax then dcGoN own tgt mk mv (xs.drop (i + 1)) (putD acc t.view u.view) e5 else .bad := by
              show (match bindT tgt d (wipeE e2 own) with | none => _ | some e1 => _) = _
              rw [hb]
            rw [eq] at h2
            refine bindT_ok (P := fun i => !own.contains i) tgt (by simpa using ht) rd hb ss3 fun σ3 fp3 ss4 sub3 pr3 len3 => ?_
            have hw : L2.wipe σ3 own = L2.wipe σ own := by
              rw [wipe_eq len3 pr3, wipe_wipe]
            refine ⟨hw, ?_⟩
            refine ⟨F3, e3, fp3, ss4, ?_⟩
            have hL4 : L ∉ fp3 := fun z => hLn (sub3 L z)
            -- the turn's end
            have fin : ∀ {H5 F5 : Hp} {fp5 : List Addr} {e5 : Ev} {vacc5 : List (D × Addr × V)} {acc5 : List (D × D)}, Stp H1 F1 fp1 H5 F5 (L :: fp5) → SS K mg H5 F5 σ3 e5 fp5 → H5 L = some (dNO L vacc5) → F5 L = none → L ∉ fp5 → DRn K mg F5 vacc5 acc5 →
                WP K mg W σ H F fp ((dcGoN own tgt mk mv (xs.drop (i + 1)) acc5 e5).bind fun acc e' => .ok (.din acc) (restE e1 (wipeE e' own) own)) (FinV K mg H F fp σ Q) →
                ∃ F5 e5 fp5 vacc5 acc5, Stp H1 F1 fp1 H5 F5 (L :: fp5) ∧ SS K mg H5 F5 (L2.wipe σ own) (wipeE e5 own) fp5 ∧ H5 L = some (dNO L vacc5) ∧ F5 L = none ∧ L ∉ fp5 ∧ DRn K mg F5 vacc5 acc5 ∧
                  WP K mg W σ H F fp ((dcGoN own tgt mk mv (xs.drop (i + 1)) acc5 e5).bind fun acc e' => .ok (.din acc) (restE e1 (wipeE e' own) own)) (FinV K mg H F fp σ Q) := fun {H5 F5 fp5 e5 vacc5 acc5} g1 g2 g3 g4 g5 g6 g7 => by
              obtain ⟨fp6, w1, w2⟩ := g2.env.wipe own
              rw [hw] at w1
              exact ⟨F5, e5, fp6, vacc5, acc5, g1.sub fun a ha => (List.mem_cons.mp ha).elim (fun z => by rw [z]; exact List.mem_cons_self) fun z => List.mem_cons_of_mem _ (w2 a z), ⟨g2.le, w1, fun a ha => g2.own a (w2 a ha)⟩, g3, g4, fun z => g5 (w2 L z), g6, g7⟩
            have heldL : ∀ {Ha Fa Hb Fb : Hp} {fa fb : List Addr}, Stp Ha Fa fa Hb Fb fb → Ha L = some (dNO L vacc) → Fa L = none → L ∉ fa → Hb L = some (dNO L vacc) ∧ Fb L = none ∧ L ∉ fb := fun {Ha Fa Hb Fb fa fb} st a1 a2 a3 => by
              obtain ⟨b1, b2, b3⟩ := st.held (gp := [L]) (fun a ha => by
                have : a = L := by simpa using ha
                rw [this]; exact ⟨_, a1⟩) (fun a ha => by
                have : a = L := by simpa using ha
                rw [this]; exact a3) (fun a ha => by
                have : a = L := by simpa using ha
                rw [this]; exact a2)
              exact ⟨b1 L List.mem_cons_self _ a1, b2 L List.mem_cons_self, b3 L List.mem_cons_self⟩
            have s3' : Stp H1 F1 fp1 H3 F3 (L :: fp3) := s3.sub fun a ha => (List.mem_cons.mp ha).elim (fun z => by rw [z]; exact List.mem_cons_self) fun z => List.mem_cons_of_mem _ (sub3 a z)
            cases hmk : mk e3 with
            | bad => rw [hmk] at h2; exact h2.elim
            | exn x' e4 => rw [hmk] at h2; exact h2.elim
            | ok tk e4 =>
              rw [hmk] at h2
              intro y H4 F4 fp4 fpv4 p4
              obtain ⟨a1, a2, a3⟩ := p4.frz
              obtain ⟨c1, c2, c3⟩ := heldL a1 hL3 hLF3 hL4
              have s4 := s3'.trans (by simpa using a1.frameL (gp := [L]))
              refine ⟨_, e4, fp4, a2, ?_⟩
              have h2 : WP K mg W σ H F fp (((noX (mv e4)).bind fun u e5 => if isKeyN tk.view = true ∧ acc.length < sizeMax then dcGoN own tgt mk mv (xs.drop (i + 1)) (putD acc tk.view u.view) e5 else .bad).bind fun acc e' => .ok (.din acc) (restE e1 (wipeE e' own) own)) (FinV K mg H F fp σ Q) := h2
              cases hmv : mv e4 with
              | bad => rw [hmv] at h2; exact h2.elim
              | exn x' e5 => rw [hmv] at h2; exact h2.elim
              | ok tv e5 =>
                rw [hmv] at h2
                have h2 : WP K mg W σ H F fp ((if isKeyN tk.view = true ∧ acc.length < sizeMax then dcGoN own tgt mk mv (xs.drop (i + 1)) (putD acc tk.view tv.view) e5 else .bad).bind fun acc e' => .ok (.din acc) (restE e1 (wipeE e' own) own)) (FinV K mg H F fp σ Q) := h2
                by_cases hz : isKeyN tk.view = true ∧ acc.length < sizeMax
                · rw [if_pos hz] at h2
                  intro z H5 F5 fpe5 fpv5 p5
                  obtain ⟨q1, q2, q3⟩ := p5.frz
                  obtain ⟨d1, d2, d3⟩ := heldL q1 c1 c2 c3
                  have racc5 : DRn K mg (frzF F5 H5 fpv5) vacc acc := (((racc.mono st3.fz).mono a1.fz).mono q1.fz)
                  have hlen : vacc.length < sizeLine := by rw [racc.length]; have := hz.2; rw [← sizeMax_eq]; exact this
                  have ry : DR K mg (frzF F5 H5 fpv5) y tk.view := (a3.mono q1.fz)
                  obtain ⟨bq, rfl⟩ : ∃ b, y = .ref b := by
                    have hz1 := hz.1
                    cases hv : tk.view <;> rw [hv] at hz1 ry <;> first | (cases hz1; done) | skip
                    cases ry with
                    | tup _ _ _ => exact ⟨_, rfl⟩
                  have nL : ∀ a ∈ fpe5, a ≠ L := fun a ha z => d3 (by rw [← z]; exact ha)
                  refine ⟨frzF F5 H5 fpv5, vacc, acc, tk.view, bq, q2.le, d1, racc5, hz.1, ry, rfl, hlen, ?_⟩
                  have hupd : ∀ a ∈ fpe5, ∀ o, H5 a = some o → upd H5 L (dNO L (putN vacc tk.view bq z)) a = some o := fun a ha o q => by
                    rw [upd_ne (nL a ha)]; exact q
                  refine fin (F5 := frzF F5 H5 fpv5) (fp5 := fpe5) (vacc5 := putN vacc tk.view bq z) (acc5 := putD acc tk.view tv.view) ?_ ⟨fun a o q => ?_, q2.env.keep (Same.refl _) hupd, q2.own⟩ upd_same d2 d3 (DRn.put hz.1 ry q3 racc5) h2
                  · have := s4.trans (by simpa using q1.frameL (gp := [L]))
                    exact this.trans (Stp.wr List.mem_cons_self)
                  · have : a ≠ L := fun z => by rw [z, d2] at q; cases q
                    rw [upd_ne this]
                    exact q2.le a o q
                · rw [if_neg hz] at h2; exact h2.elim
      · have ei : i = xs.length := by omega
        subst ei
        refine .inl ⟨wk2.stops H2 ss2.le, ?_⟩
        rw [List.drop_length] at h2
        have h2 : FinV K mg H F fp σ Q (.din acc) (restE e1 (wipeE e2 own) own) := h2
        obtain ⟨fp3, r1, r2⟩ := rest_ok own hnd (fun j hj => (hod j hj).imp id fun ⟨d, v, a1, a2, a3⟩ => ⟨d, v, a1, a2, a3.mono s2.fz⟩) ss2.env
        refine h2 (.ref L) H2 F2 fp3 [L] ⟨(s1.trans s2).sub fun a ha => ?_, ⟨ss2.le, r1, fun a ha => ss2.own a (r2 a ha)⟩, (.dN hLv racc), fun a ha q => ?_, fun a ha => ?_⟩
        · exact (List.mem_append.mp ha).elim (fun z => by have : a = L := by simpa using z
                                                          rw [this]; exact List.mem_cons_self) fun z => List.mem_cons_of_mem _ (r2 a z)
        · have : a = L := by simpa using ha
          rw [this] at q
          exact hLn (r2 L q)
        · have : a = L := by simpa using ha
          rw [this]; exact hLF
end
section
variable {X : Cx} {W : WX} {pos : Pos} {k : Nat} {kx vx tg iter : Expr} {xk xv : IE}
theorem e_dcN {own : List (Str × Nat)} {sc : Scope} {tgt : TGt} {it : ITK} {its : List IE} (c : Cq X W k) (hi : JI X W it its tg iter) (hg : ∀ (s : Shared) (H : Hp) (C : Addr) (cl : List (Str × Addr)) (fp : List Addr), JG (X.blk s H sc (compEnvC sc cl C X.env) fp) tgt tg)
    (hk : ∀ (s : Shared) (H : Hp) (C : Addr) (cl : List (Str × Addr)) (fp : List Addr), JE (X.blk s H sc (compEnvC sc cl C X.env) fp) W0 xk kx) (he : ∀ (s : Shared) (H : Hp) (C : Addr) (cl : List (Str × Addr)) (fp : List Addr), JE (X.blk s H sc (compEnvC sc cl C X.env) fp) W0 xv vx)
    (ok : blkC X.N X.env.scope sc own = true := by rfl) (hw : (tgt.has.all fun j => (own.map (·.2)).contains j) = true := by rfl) (hs : ∀ x, foldedSetIterable iter X.env x = pure x := by intro _; rfl) : JE X W (.dcN tgt it its xk xv (own.map (·.2))) (.DictComp kx vx [⟨tg, iter, [], 0⟩] sc pos) := by
  refine PE.imp (pe_dcN (g := gOf X.K tgt) (tk := tD X.K X.mg W0 (sem xk).1) (tv := tD X.K X.mg W0 (sem xv).1) c.pw c.ww c.u64 c.calm c.nd hi (blkOk_by ok) hg hk he hs) fun σ H Q h => ?_
  obtain ⟨F, en, fp, ss, h⟩ := h
  have h : WP X.K X.mg W σ H F fp ((evs its en).bind fun ts e1 => (M.lift (itemsOf it (OT.views ts)) e1).bind fun xs e2 => dcRunN (own.map (·.2)) tgt (sem xk).1 (sem xv).1 xs e2) (FinV X.K X.mg H F fp σ Q) := h
  refine ⟨F, en, fp, ss, ?_⟩
  show WP X.K X.mg W σ H F fp ((evs its en).bind fun ts e1 => M.lift (itemsOf it (OT.views ts)) e1) _
  cases hm : evs its en with
  | bad => rw [hm] at h; exact h
  | exn y e1 => rw [hm] at h; exact h
  | ok ts e1 =>
    rw [hm] at h
    cases hi : itemsOf it (OT.views ts) with
    | none => simp only [R.bind, hi, M.lift_none] at h; exact h.elim
    | some xs =>
      simp only [R.bind, hi, M.lift_some] at h ⊢
      exact fun J H1 F1 fp1 s1 ss1 wk => dcn_core hw wk s1 ss1 h
end
end Rx
end

section
/-! Rx, part 35: sorted, of a dict of tuple keys. -/
namespace Rx
open PySem PySem.Spec PyProof.Rows L2
variable [Prw]
section
variable {X : Cx} {pins : List (Addr × Obj)} {σ : L2.St} {H F : Hp} {s : Shared}
mutual
/-- a key is read, and no list is within it -/
theorem key_reads (I : Inv X pins σ H s) (le : Same F H) : ∀ (n : Nat) (d : D) {v : V} {u : Value}, D.isk n d = true → DR X.K X.mg F v d → RelV v u → Reads s.heap u (toPy d) []
  | n, .non, v, u, _, r, ru => by cases r; cases ru; exact .none
  | n, .int i, v, u, _, r, ru => by cases r; obtain ⟨t, rfl⟩ := ru; exact .int _ _
  | n, .str z, v, u, _, r, ru => by
    cases r with
    | str _ _ => obtain ⟨t, rfl⟩ := ru; exact .str _ _
  | 0, .tup _, _, _, h, _, _ => by cases h
  | n + 1, .tup xs, v, u, h, r, ru => by
    cases r with
    | tup hs hz rs =>
      cases ru
      obtain ⟨its, rv, pl, _⟩ := I.tuple (Same.seqT le hs)
      obtain ⟨o, ho, hc, m, hd⟩ := pl
      exact .tuple ho hc hd (by simpa using keys_reads I le n xs h rs rv)
  | n, .bl _, _, _, h, _, _ => by cases n <;> cases h
  | n, .lst _, _, _, h, _, _ => by cases n <;> cases h
  | n, .lk _, _, _, h, _, _ => by cases n <;> cases h
  | n, .adr _, _, _, h, _, _ => by cases n <;> cases h
  | n, .ali _ _, _, _, h, _, _ => by cases n <;> cases h
  | n, .tpn _, _, _, h, _, _ => by cases n <;> cases h
  | n, .dic _, _, _, h, _, _ => by cases n <;> cases h
  | n, .din _, _, _, h, _, _ => by cases n <;> cases h
  | n, .ins _ _, _, _, h, _, _ => by cases n <;> cases h
  | n, .fn _, _, _, h, _, _ => by cases n <;> cases h
theorem keys_reads (I : Inv X pins σ H s) (le : Same F H) : ∀ (n : Nat) (ds : List D) {vs : List V} {us : List Value}, D.isks n ds = true → DRs X.K X.mg F vs ds → Vals vs us → ReadsAll s.heap us (toPys ds) []
  | n, [], _, _, _, r, ru => by cases r; cases ru; exact .nil
  | n, d :: ds, _, _, h, r, ru => by
    have h : (D.isk n d && D.isks n ds) = true := h
    rw [Bool.and_eq_true] at h
    cases r with
    | cons r rs =>
      cases ru with
      | cons u us => exact .cons (as := []) (bs := []) (key_reads I le n d h.1 r u) (keys_reads I le n ds h.2 rs us)
end
end
/-- the keys, each with its data -/
def keyB (xs : List (D × Addr × V)) : List (V × D) := xs.map fun x => (V.ref x.2.1, x.1)
def rSortN (K : PySem.W.Frag) (mg : Str → Option Value) : List V → Hp → VK → Prop := fun vs H Q => ∃ (F : Hp) (a : Addr) (xs : List (D × Addr × V)) (ds : List (D × D)), vs = [V.ref a] ∧ Same F H ∧ Rd H a (dNO a xs) ∧ DRn K mg F xs ds ∧ sortOk (ds.map (·.1)) = true ∧
  ∀ p, H p = none → Q (.ref p) (upd H p (.lst (((keyB xs).mergeSort fun x y => D.le x.2 y.2).map (·.1))))
theorem DRn.keyB {K : PySem.W.Frag} {mg : Str → Option Value} {F : Hp} : ∀ {xs : List (D × Addr × V)} {ds : List (D × D)}, DRn K mg F xs ds → (keyB xs).map (·.2) = ds.map (·.1) ∧ ∀ b ∈ Rx.keyB xs, isKeyN b.2 = true ∧ DR K mg F b.1 b.2
  | _, _, .nil => ⟨rfl, fun _ h => nomatch h⟩
  | _, _, .cons (xs := xs) k q v r => by
    obtain ⟨e, m⟩ := DRn.keyB r
    refine ⟨by unfold Rx.keyB at e ⊢; rw [List.map_cons, List.map_cons, e]; rfl, fun b hb => ?_⟩
    rcases List.mem_cons.mp hb with rfl | hb
    · exact ⟨k, q⟩
    · exact m b hb
/-- what the dict's walk gives: its keys, in their order -/
theorem keys_got {es : Array DictEntry} {xs : List (D × Addr × V)} (hz : es.size = xs.length) (ent : ∀ i (hi : i < es.size), ∃ q, (xs[i]?.map fun x => x.2.1) = some q ∧ es[i].key = .ref q) {acc : Array Value} (h : ItemsOf (fun i v => ∃ hi : i < es.size, v = es[i].key) acc es.size) :
    acc.toList = xs.map fun x => Value.ref x.2.1 := by
  apply List.ext_getElem?
  intro i
  rw [List.getElem?_map]
  by_cases hi : i < es.size
  · have hi2 : i < acc.size := by rw [h.1]; exact hi
    obtain ⟨_, e⟩ := h.2 i acc[i] (by simp [hi2])
    obtain ⟨q, e1, e2⟩ := ent i hi
    rw [Array.getElem?_toList, Array.getElem?_eq_getElem hi2, e, e2]
    cases hx : xs[i]? with
    | none => rw [hx] at e1; cases e1
    | some x => rw [hx] at e1; cases e1; rfl
  · rw [List.getElem?_eq_none (by rw [Array.length_toList, h.1]; omega), List.getElem?_eq_none (by omega)]; rfl
section
variable {X : Cx}
theorem cr_sortN (hP : Prw.P = X.prog) (hw : Prw.w = X.w) (hc : X.calm = true) (hu : X.A.units + 64 < cLine) : CallR X (.builtin "sorted") (rSortN X.K X.mg) := by
  intro pins s σ H vs us Q I r h
  obtain ⟨F, a, xs, ds, rfl, le, h1, h2, ok, q⟩ := h
  obtain ⟨u, rfl, ru⟩ := vals1 r
  obtain rfl : u = Value.ref a := ru
  obtain ⟨few, sm, _, ys, pn, dd⟩ := dn_at hP hw I le h1 h2
  obtain ⟨es, ep, raw, hz, ent⟩ := dd.raw
  have hz2 : es.size = xs.length := by rw [hz, Paired.length pn]
  have fewE : es.size ≤ sizeLine := by rw [hz2]; exact few
  have ent2 : ∀ i (hi : i < es.size), ∃ b, (xs[i]?.map fun x => x.2.1) = some b ∧ es[i].key = .ref b := fun i hi => by
    obtain ⟨y, e1, e2, _⟩ := ent i hi
    have hx : i < xs.length := by omega
    obtain ⟨z, e3, e4, e5, _⟩ := paired_at pn (List.getElem?_eq_getElem hx)
    rw [e1] at e3
    cases e3
    exact ⟨y.2.1, by rw [List.getElem?_eq_getElem hx]; exact congrArg some e5.symm, e2⟩
  refine Calls.call_function_entry PyProof.Rows.kind_sorted PyProof.Rows.plain_sorted PyProof.Rows.entry_sorted (PyProof.Rows.args_sorted1 _) ?_
  unfold Builtin.«sorted»
  refine wpAny_bind (m := checkCount "sorted" 1 1 _) (wpAny_pure (wpAny_bind (PySem.W.kdu_collect (A := X.A.in1) (KdlSrc.rawDict (es := es) (ep := ep) sm) (I.ok.hd hc) raw fewE fun h' tk acc hk hacc => ?_)))
  have el := keys_got hz2 ent2 hacc
  have I1 : Inv X pins σ H { s with heap := h', toks := tk } := I.kept hk
  obtain ⟨kb1, kb2⟩ := h2.keyB
  simp only [sortOk, Bool.and_eq_true, Bool.or_eq_true, List.all_eq_true] at ok
  obtain ⟨⟨k1, k2⟩, k3⟩ := ok
  have mem : ∀ b ∈ keyB xs, b.2 ∈ ds.map (·.1) := fun b hb => by rw [← kb1]; exact List.mem_map.mpr ⟨b, hb, rfl⟩
  have e3 : (keyB xs).map (fun b => toPy b.2) = (ds.map (·.1)).map toPy := by rw [← kb1, List.map_map]; rfl
  -- the keys stand in a new list
  refine wpAny_bind (wpAny_newList ?_ (by rw [el, List.length_map]; exact few))
  have at1 : (h'.push (seqObj "list" acc.toList.toArray 0)).get? h'.objs.size = some (seqObj "list" acc.toList.toArray 0) := Heap.get?_push_size _ rfl
  have I2 : Inv X pins σ H { s with heap := h'.push (seqObj "list" acc.toList.toArray 0), toks := tk } := I1.kept fun b o e => Heap.get?_push_of_some _ e
  have rel : ∀ (l : List (D × Addr × V)), PySem.W.EachIs (fun u (b : V × D) => RelV b.1 u) (l.map fun x => Value.ref x.2.1) (keyB l) := fun l => by
    induction l with
    | nil => exact .nil
    | cons x l ih => exact .cons (show RelV (.ref x.2.1) (.ref x.2.1) from rfl) ih
  have rd : ∀ (l : List (D × Addr × V)), (∀ b ∈ keyB l, isKeyN b.2 = true ∧ DR X.K X.mg F b.1 b.2) → PySem.W.EachIs (fun u (b : V × D) => ∃ as, Reads (h'.push (seqObj "list" acc.toList.toArray 0)) u (toPy b.2) as ∧ h'.objs.size ∉ as) (l.map fun x => Value.ref x.2.1) (keyB l) := fun l hl => by
    induction l with
    | nil => exact .nil
    | cons x l ih =>
      obtain ⟨p1, p2⟩ := hl _ List.mem_cons_self
      exact .cons ⟨[], key_reads I2 le 8 _ (isKeyN_tup p1) p2 (show RelV (.ref x.2.1) (.ref x.2.1) from rfl), fun z => nomatch z⟩ (ih fun b hb => hl b (List.mem_cons_of_mem _ hb))
  have e1 := rel xs
  have e2 := rd xs kb2
  rw [← el] at e1 e2
  show wpAny _ _ _ _ _ { s with heap := h'.push (seqObj "list" acc.toList.toArray 0), toks := tk }
  refine wpAny_bind (wpAny_holding (PySem.W.list_sort_data (s := { s with heap := h'.push (seqObj "list" acc.toList.toArray 0), toks := tk }) (enc := fun b : V × D => toPy b.2) at1 e1 e2 ?_ ?_ ?_ (fun b hb => ?_) fun out ho eo => ?_))
  · rw [e3]
    intro d hd d' hd'
    obtain ⟨x, hx, rfl⟩ := List.mem_map.mp hd
    obtain ⟨y, hy, rfl⟩ := List.mem_map.mp hd'
    exact alike_py x y (k2 x hx y hy)
  · rw [e3]
    rcases k3 with k3 | k3
    · refine .inl fun d hd => ?_
      obtain ⟨x, hx, rfl⟩ := List.mem_map.mp hd
      exact isTup1_py (k3 x hx)
    · refine .inr fun d hd => ?_
      obtain ⟨x, hx, rfl⟩ := List.mem_map.mp hd
      exact notTN_py (k3 x hx) (eqoks_mem k1 x hx)
  · rw [show (keyB xs).length = xs.length from List.length_map ..]; exact few
  · have := (dp_of 60 b.2 b.1 (eqoks_mem k1 _ (mem b hb)) ((kb2 b hb).2.mono le)).2.2
    show X.A.units + 1 + 1 + (toPy b.2).depth < cLine
    omega
  · have e5 : PySem.W.dataLe false (fun b : V × D => toPy b.2) = fun x y => D.le x.2 y.2 := by
      funext x y
      exact le_py x.2 y.2
    rw [e5] at eo
    obtain ⟨e', he'⟩ := PyProof.Rows.sortedHeap_at (vs := acc.toList) (out := out.toArray) at1
    refine wpAny_pure ⟨_, rfl, .ref h'.objs.size, upd H h'.objs.size (.lst (((keyB xs).mergeSort fun x y => D.le x.2 y.2).map (·.1))), I1.laid (t' := tk) (fun b u e => ?_) (Nat.le_refl _) ⟨?_, out, e', vals_each eo, he'⟩, rfl, q _ (I1.hok.fresh (Nat.le_refl _))⟩
    · have lt : b < h'.objs.size := Heap.lt_size e
      rw [PyProof.Rows.sortedHeap_old (Nat.ne_of_lt lt) (by rw [PyProof.Rows.size_push']; exact Nat.lt_succ_of_lt lt)]
      exact Heap.get?_push_of_some _ e
    · rw [List.length_map, List.length_mergeSort, show (keyB xs).length = xs.length from List.length_map ..]; exact few
theorem bi_sortN (hP : Prw.P = X.prog) (hw : Prw.w = X.w) (hc : X.calm = true) (hu : X.A.units + 64 < cLine) (h : X.mg "sorted" = none) : HasBi X "sorted" sortedN := ⟨h, by decide, .inl ⟨"sorted", rfl, CallR.cases fun ds t e => by
  obtain ⟨d, rfl⟩ := one_of e rfl (fun a b r => by cases a <;> rfl)
  cases d <;> first | (cases e; done) | skip
  rename_i kvs
  have e : (if sortOk (kvs.map (·.1)) = true ∧ kvs.length ≤ sizeMax then some (OT.ml ((kvs.map (·.1)).mergeSort D.le)) else none) = some t := e
  by_cases hk : sortOk (kvs.map (·.1)) = true ∧ kvs.length ≤ sizeMax
  · rw [if_pos hk] at e
    cases e
    refine ⟨_, cr_sortN hP hw hc hu, fun F H vs Q le p q => ?_⟩
    obtain ⟨v, rfl, p2⟩ := p.one
    obtain ⟨a, xs, rfl, h1, h2⟩ := p2.dictN le
    refine ⟨F, a, xs, kvs, rfl, le, h1, h2, hk.1, fun p hp => ?_⟩
    obtain ⟨k1, k2⟩ := h2.keyB
    have e4 : ((keyB xs).mergeSort fun x y => D.le x.2 y.2).map (·.2) = (kvs.map (·.1)).mergeSort D.le := by
      rw [← k1]
      exact List.map_mergeSort fun _ _ _ _ => rfl
    refine q.newL le hp ?_ ?_
    · rw [← e4]
      exact DRs.unzip _ fun b hb => (k2 b ((List.mergeSort_perm _ _).mem_iff.mp hb)).2
    · rw [List.length_map, List.length_mergeSort, show (keyB xs).length = xs.length from List.length_map .., h2.length, ← sizeMax_eq]
      exact hk.2
  · rw [if_neg hk] at e; cases e⟩⟩
end
end Rx
end

section
/-! Rx, part 36: two names are set at once. -/
namespace Rx
open PySem PySem.Spec PyProof.Rows L2
variable [Prw]
section
variable {X : Cx} {W : WX} {P : Nat → Bool} {k : Nat} {pos px py pt pt2 : Pos} {a b : Expr} {xa xb : IE}
theorem s_par (i j : Nat) {x y : Str} {kt k2} (c : Cq X W k) (ha : JL X W [xa, xb] [a, b]) (hij : (decide (i = j)) = false := by rfl) (hPi : P i = false := by rfl) (hPj : P j = false := by rfl) (hi : X.N[i]? = some x := by rfl) (hj : X.N[j]? = some y := by rfl)
    (hx : X.env.scope.names.lookup x = some .local := by rfl) (hy : X.env.scope.names.lookup y = some .local := by rfl)
    (hw : swappedStores [.Tuple [.Name x px, .Name y py] kt pt] (.Tuple [a, b] k2 pt2) X.env = pure (some [x, y]) := by rfl)
    (hs : swapsWithSole [.Tuple [.Name x px, .Name y py] kt pt] (.Tuple [a, b] k2 pt2) pos.line X.env = pure false := by rfl) :
    JS X W P (.par i j xa xb) (.Assign [.Tuple [.Name x px, .Name y py] kt pt] (.Tuple [a, b] k2 pt2) pos) := by
  refine PS.imp (ps_par c.calm c.nd hi hj (of_decide_eq_false hij) hx hy ha hw hs) fun D σ H h => ?_
  obtain ⟨F, en, fp, ss, h⟩ := h
  refine tDs_st (f := fun ts e2 => (match OT.views ts with
    | [t, u] => SR.nx ((e2.set i (some (.fz t))).set j (some (.fz u)))
    | _ => .bad)) Stp.refl Pr.refl ss h fun vs ts H1 F1 fpe fpv e1 p h1 => ?_
  obtain ⟨q1, q2, q3⟩ := p.frz
  cases hv : OT.views ts with
  | nil => rw [hv] at h1; exact h1.elim
  | cons t r =>
    cases r with
    | nil => rw [hv] at h1; exact h1.elim
    | cons u r =>
      cases r with
      | cons _ _ => rw [hv] at h1; exact h1.elim
      | nil =>
        rw [hv] at h1 q3
        cases q3 with
        | cons r1 r2 =>
          cases r2 with
          | cons r2 r3 =>
            cases r3
            obtain ⟨f1, s1, m1⟩ := q2.set (j := i) r1
            obtain ⟨f2, s2, m2⟩ := s1.set (j := j) r2
            exact ⟨_, _, rfl, h1 _ H1 _ f2 (q1.sub fun a ha => m1 a (m2 a ha)) s2 ((Pr.set hPi).trans (Pr.set hPj))⟩
end
end Rx
end

section
/-! Rx, part 37: == of two dicts. -/
namespace Rx
open PySem PySem.Spec PyProof.Rows L2
variable [Prw]
/-- what == of two dicts finds, entry by entry -/
inductive KH (K : PySem.W.Frag) (H : Hp) (kbs : List (Key × V)) : List (Key × V) → Bool → Prop
  | nil : KH K H kbs [] true
  | miss {k : Key} {v : V} {r : List (Key × V)} : valV kbs k = none → KH K H kbs ((k, v) :: r) false
  | hit {k : Key} {v y : V} {r : List (Key × V)} {d e : PyData} {b : Bool} : valV kbs k = some y → Dp K H v d → Dp K H y e → SeqAt.shaped d = true → SeqAt.shaped e = true → KH K H kbs r b → KH K H kbs ((k, v) :: r) (d.eqv e && b)
def rEqKK (K : PySem.W.Frag) (neg : Bool) : R2 := fun x y H Q => ∃ a b kas kbs r, x = .ref a ∧ y = .ref b ∧ Rd H a (.dK kas) ∧ Rd H b (.dK kbs) ∧ KH K H kbs kas r ∧ Q (.bl (neg != (kas.length == kbs.length && r))) H
section
variable {X : Cx}
theorem kv_len {kvs : List (Key × V)} {vs : List (Key × Value)} (h : KV kvs vs) : kvs.length = vs.length := by
  induction h with
  | nil => rfl
  | cons _ _ ih => simp [ih]
theorem kh_hits (hu : X.A.units + 65 < cLine) {pins : List (Addr × Obj)} {σ : L2.St} {H : Hp} {s : Shared} (I : Inv X pins σ H s) {kbs : List (Key × V)} {vb : List (Key × Value)} (hb : KV kbs vb) :
    ∀ {kas : List (Key × V)} {va : List (Key × Value)} {r : Bool}, KH X.K H kbs kas r → KV kas va → PySem.W.KeqHits X.A.in1 s vb va r
  | _, _, _, .nil, .nil => .nil
  | _, _, _, .miss (k := k) h, .cons (b := q) hp _ => by
    obtain ⟨k', w⟩ := q
    obtain ⟨e, _⟩ := hp
    have e : k = k' := e
    subst e
    refine .miss ?_
    have := hb.val k
    rw [h] at this
    cases hv : valueAt vb k with
    | none => rfl
    | some y => rw [hv] at this; cases this
  | _, _, _, .hit (k := k) h hd he sd se rest, .cons (b := q) hp hr => by
    obtain ⟨k', w⟩ := q
    obtain ⟨e, rv⟩ := hp
    have e : k = k' := e
    subst e
    have := hb.val k
    rw [h] at this
    cases hv : valueAt vb k with
    | none => rw [hv] at this; cases this
    | some y =>
      rw [hv] at this
      obtain ⟨as, r1⟩ := Dp.reads I _ _ _ hd rv
      obtain ⟨bs, r2⟩ := Dp.reads I _ _ _ he this
      exact .hit hv (PySem.W.keq_at r1 r2 sd se (by have : X.A.in1.units = X.A.units + 1 := rfl; omega)) (kh_hits hu I hb rest hr)
theorem op_eqKK (hu : X.A.units + 65 < cLine) : OpR X (compareOp .Eq) (rEqKK X.K false) := by
  intro pins s σ H x y v u Q I rx ry h
  obtain ⟨a, b, kas, kbs, r, rfl, rfl, ha, hb, hk, q⟩ := h
  cases rx; cases ry
  obtain ⟨_, na, va, ka, da⟩ := dk_rd I.hok ha
  obtain ⟨_, nb, vb, kb, db⟩ := dk_rd I.hok hb
  refine PySem.W.keq_eq (r := r) na nb da db (by omega) (fun _ => kh_hits hu I kb hk ka) ?_
  rw [← kv_len ka, ← kv_len kb]
  exact ⟨.bl _, H, I, rfl, by simpa using q⟩
theorem op_neKK (hu : X.A.units + 65 < cLine) : OpR X (compareOp .NotEq) (rEqKK X.K true) := by
  intro pins s σ H x y v u Q I rx ry h
  obtain ⟨a, b, kas, kbs, r, rfl, rfl, ha, hb, hk, q⟩ := h
  cases rx; cases ry
  obtain ⟨_, na, va, ka, da⟩ := dk_rd I.hok ha
  obtain ⟨_, nb, vb, kb, db⟩ := dk_rd I.hok hb
  refine PySem.W.keq_ne (r := r) na nb da db (by omega) (fun _ => kh_hits hu I kb hk ka) ?_
  rw [← kv_len ka, ← kv_len kb]
  exact ⟨.bl _, H, I, rfl, by simpa using q⟩
theorem drk_len {K : PySem.W.Frag} {mg : Str → Option Value} {F : Hp} : ∀ {kvs : List (Key × V)} {ds : List (D × D)}, DRk K mg F kvs ds → kvs.length = ds.length
  | _, _, .nil => rfl
  | _, _, .cons _ _ r => by rw [List.length_cons, List.length_cons, drk_len r]
theorem drk_ok {K : PySem.W.Frag} {mg : Str → Option Value} {H : Hp} {kbs : List (Key × V)} {bs : List (D × D)} (hb : DRk K mg H kbs bs) (ob : okK bs = true) :
    ∀ {kas : List (Key × V)} {as : List (D × D)}, DRk K mg H kas as → okK as = true → KH K H kbs kas (eqvK bs as)
  | _, _, .nil, _ => .nil
  | _, _, .cons (k := k) (v := v) (d := d) ok r rs, oa => by
    have oa : (D.eqok 60 d && okK _) = true := oa
    rw [Bool.and_eq_true] at oa
    have ih := drk_ok hb ob rs oa.2
    rcases valK (k := k) hb with ⟨h1, h2⟩ | ⟨e, w, h1, h2, h3⟩
    · have : ∀ l, eqvK bs ((keyD k, d) :: l) = false := fun l => by rw [eqvK, h1]
      rw [this]
      exact .miss h2
    · have : ∀ l, eqvK bs ((keyD k, d) :: l) = (D.eqv d e && eqvK bs l) := fun l => by rw [eqvK, h1]
      rw [this]
      have oe : D.eqok 60 e = true := by
        have : ∀ (l : List (D × D)) (k d : D), okK l = true → lookD l k = some d → D.eqok 60 d = true := by
          intro l
          induction l with
          | nil => intro k d _ h; cases h
          | cons p l ih =>
            intro k d ho h
            have ho : (D.eqok 60 p.2 && okK l) = true := ho
            rw [Bool.and_eq_true] at ho
            unfold lookD at h
            split at h
            · cases h; exact ho.1
            · exact ih k d ho.2 h
        exact this bs _ _ ob h1
      obtain ⟨a1, a2⟩ := shaped_of (n := 60) (by omega) oa.1 r
      obtain ⟨b1, b2⟩ := shaped_of (n := 60) (by omega) oe h3
      rw [← eqv_py 60 60 d e oa.1 oe]
      exact .hit h2 a1 b1 a2 b2 ih
theorem eqDd_dic (a b : List (D × D)) : eqDd (.dic a) (.dic b) = if okK a = true ∧ okK b = true then some (decide (a.length = b.length) && eqvK b a) else none := rfl
theorem od_eqDd (hu : X.A.units + 65 < cLine) : OpD X (compareOp .Eq) (bl2 eqDd) := OpD.cases fun d1 d2 t e => by
  unfold bl2 at e
  cases d1 <;> first | (cases e; done) | skip
  cases d2 <;> first | (cases e; done) | skip
  rename_i as bs
  rw [eqDd_dic] at e
  by_cases hz : okK as = true ∧ okK bs = true
  · rw [if_pos hz] at e
    cases e
    refine ⟨_, op_eqKK hu, fun F H x y Q le p1 p2 r1 r2 q => ?_⟩
    obtain ⟨a, ka, rfl, a1, a2⟩ := p1.dict le
    obtain ⟨b, kb, rfl, b1, b2⟩ := p2.dict le
    refine ⟨a, b, ka, kb, _, rfl, rfl, a1, b1, drk_ok (b2.mono le) hz.2 (a2.mono le) hz.1, ?_⟩
    have : (false != (ka.length == kb.length && eqvK bs as)) = (decide (as.length = bs.length) && eqvK bs as) := by
      rw [drk_len a2, drk_len b2]
      cases eqvK bs as <;> simp <;> rfl
    rw [this]
    exact q.bl le
  · rw [if_neg hz] at e; cases e
theorem od_neDd (hu : X.A.units + 65 < cLine) : OpD X (compareOp .NotEq) (bl2 neDd) := OpD.cases fun d1 d2 t e => by
  unfold bl2 neDd at e
  cases d1 <;> first | (cases e; done) | skip
  cases d2 <;> first | (cases e; done) | skip
  rename_i as bs
  rw [eqDd_dic] at e
  by_cases hz : okK as = true ∧ okK bs = true
  · rw [if_pos hz] at e
    cases e
    refine ⟨_, op_neKK hu, fun F H x y Q le p1 p2 r1 r2 q => ?_⟩
    obtain ⟨a, ka, rfl, a1, a2⟩ := p1.dict le
    obtain ⟨b, kb, rfl, b1, b2⟩ := p2.dict le
    refine ⟨a, b, ka, kb, _, rfl, rfl, a1, b1, drk_ok (b2.mono le) hz.2 (a2.mono le) hz.1, ?_⟩
    have : (true != (ka.length == kb.length && eqvK bs as)) = !(decide (as.length = bs.length) && eqvK bs as) := by
      rw [drk_len a2, drk_len b2]
      cases eqvK bs as <;> simp <;> rfl
    rw [this]
    exact q.bl le
  · rw [if_neg hz] at e; cases e
end
end Rx
end

section
/-! Rx, part 38: xs[::-1]. -/
namespace Rx
open PySem PySem.Spec PyProof.Rows L2
variable [Prw]
section
variable {X : Cx} {W : WX} {P : Nat → Bool} {k : Nat} {pos p1 p2 p3 : Pos} {a : Expr} {xa : IE}
theorem drs_rev {K : PySem.W.Frag} {mg : Str → Option Value} {F : Hp} {vs : List V} {ds : List D} (h : DRs K mg F vs ds) : DRs K mg F vs.reverse ds.reverse := by
  have key : ∀ {vs : List V} {ds : List D}, DRs K mg F vs ds → ∀ {us : List V} {es : List D}, DRs K mg F us es → DRs K mg F (vs.reverse ++ us) (ds.reverse ++ es) := by
    intro vs
    induction vs with
    | nil => intro ds h us es h2; cases h; exact h2
    | cons v vs ih =>
      intro ds h us es h2
      cases h with
      | cons r rs =>
        rw [List.reverse_cons, List.reverse_cons, List.append_assoc, List.append_assoc]
        exact ih rs (.cons r h2)
  have := key h .nil
  rw [List.append_nil, List.append_nil] at this
  exact this
theorem e_rev {kk} (ha : JO X W xa a) : JE X W (.uop .USub revD xa) (.Subscript a (.Slice none none (some (.UnaryOp .USub (.Constant (.int 1) kk p1) p2)) p3) pos) := by
  refine PE.imp (pe_revL ha) fun σ H Q h => ?_
  obtain ⟨F, en, fp, ss, h⟩ := h
  refine opd_use Stp.refl ss h fun v H1 F1 fp1 r e1 s1 _ ss1 o1 h1 => ?_
  obtain ⟨d, pd, h2⟩ := fin_use ss1 o1 h1
  obtain ⟨d2, hd, q⟩ := uop_end s1 ss1 h2
  cases d <;> first | (cases hd; done) | skip
  cases hd
  obtain ⟨a, vs, rfl, h1, h2, h3⟩ := pd.items ss1.le
  refine ⟨a, vs, rfl, .inl (.inl h1), fun p hp => ?_⟩
  exact q.new ss1.le hp (.lst upd_same (by rw [List.length_reverse]; exact h2) (DRs.mono (same_up (Same.free ss1.le hp)) (drs_rev h3)))
end
end Rx
end

section
/-! Rx, part 39: a dict in a list of dicts. -/
namespace Rx
open PySem PySem.Spec PyProof.Rows L2
open AutoSeq1 (wpAny_loadPart')
variable [Prw]
section
variable {P : Program} {w : World}
/-- the loop of `in`, within one program and world, from place i on: some item is equal -/
theorem scan_in (lo : Addr) (vs : Array Value) (m : Nat) (dO : Option Addr) (ss : Array (Option Value)) (z : Value) (g : Value → Bool) : ∀ (j i : Nat), vs.size - i = j →
    MeetsIn P w (Builtin.«list.__contains__.loop» ⟨[.ref lo, z, rawInt i], []⟩) fun A R s =>
      s.heap.get? lo = some ⟨.type "list", dO, .seq vs m, ss⟩ ∧ (∀ v, v ∈ vs → SeqAt.EqIn P w A.in1 s v z (g v)) ∧ R (.ok (.ret (.bool ((vs.toList.drop i).any g)))) s
  | 0, i, hj, A, R, s, h => by
    obtain ⟨hp, gs, dr, tk, os⟩ := s
    obtain ⟨h1, h2, h3⟩ := h
    wp_walk using wpAny_loadPart' h1
    have q1 : vs[((i : Nat) : Int).toNat]? = none := by simp; omega
    have q2 : vs.toList.drop i = [] := by simp; omega
    rw [q2] at h3
    rw [q1]
    wp_walk
    exact h3
  | j + 1, i, hj, A, R, s, h => by
    obtain ⟨hp, gs, dr, tk, os⟩ := s
    obtain ⟨h1, h2, h3⟩ := h
    wp_walk using wpAny_loadPart' h1
    have ht : i < vs.size := by omega
    have q1 : vs[((i : Nat) : Int).toNat]? = some vs[i] := by simp [ht]
    have q2 : vs.toList.drop i = vs[i] :: vs.toList.drop (i + 1) := by simp [List.drop_eq_getElem_cons, ht]
    rw [q2, List.any_cons] at h3
    rw [q1]
    refine wpAny_bind (h2 _ (Array.getElem_mem ht) _ _ ?_)
    cases hg : g vs[i] with
    | true =>
      rw [hg] at h3
      wp_walk
      exact h3
    | false =>
      rw [hg] at h3
      have q3 : (i : Int) + 1 = ((i + 1 : Nat) : Int) := by push_cast; rfl
      wp_walk
      rw [q3]
      refine ⟨plainId_quiet MeetsSeq.plain_contains_loop _, codeAny_builtin MeetsSeq.entry_contains_loop ?_⟩
      rw [Around.under_plainId MeetsSeq.plain_contains_loop _]
      exact scan_in lo vs m dO ss z g j (i + 1) (by omega) A R _ ⟨h1, h2, by simpa using h3⟩
theorem has_in (lo : Addr) (vs : Array Value) (m : Nat) (dO : Option Addr) (ss : Array (Option Value)) (z : Value) (g : Value → Bool) :
    MeetsIn P w (Builtin.«list.__contains__» ⟨[.ref lo, z], []⟩) fun A R s =>
      s.heap.get? lo = some ⟨.type "list", dO, .seq vs m, ss⟩ ∧ (∀ v, v ∈ vs → SeqAt.EqIn P w A.in1 s v z (g v)) ∧ R (.ok (.ret (.bool (vs.any g)))) s := by
  intro A R s h
  obtain ⟨hp, gs, dr, tk, os⟩ := s
  obtain ⟨h1, h2, h3⟩ := h
  wp_walk using wpAny_loadPart' h1
  refine ⟨plainId_quiet MeetsSeq.plain_contains_loop _, codeAny_builtin MeetsSeq.entry_contains_loop ?_⟩
  rw [Around.under_plainId MeetsSeq.plain_contains_loop _]
  exact scan_in lo vs m dO ss z g _ 0 rfl A R _ ⟨h1, h2, by simpa using h3⟩
theorem nin_in {A : Around} {E : Value → Shared → Prop} {s : Shared} {lo : Addr} {vs : Array Value} {m : Nat} {dO : Option Addr} {ss : Array (Option Value)} {z : Value} {Q : Value → Shared → Prop} (g : Value → Bool)
    (h1 : s.heap.get? lo = some ⟨.type "list", dO, .seq vs m, ss⟩) (h2 : ∀ v, v ∈ vs → SeqAt.EqIn P w A.in1 s v z (g v)) (q : Q (.bool (!vs.any g)) s) : wpAny (model P w) A (compareOp .NotIn z (.ref lo)) Q E s := by
  show wpAny _ A (do return .bool (!(← contains (.ref lo) z))) Q E s
  have ty : s.TypeIs (.ref lo) "list" := ⟨_, h1, rfl⟩
  refine wpAny_bind (wpAny_contains_slot ty F.slot_list_contains (call_meetsIn F.slot_list_contains ty F.entry_list_contains (F.args_list_contains_2 _ _) (has_in lo vs m dO ss z g) ⟨h1, h2, ?_⟩))
  exact wpAny_truthy_bool (wpAny_pure q)
end
section
variable {X : Cx}
theorem same_in {Pr : Program} {wo : World} {A : Around} {s : Shared} (a : Addr) : SeqAt.EqIn Pr wo A s (.ref a) (.ref a) true := by
  intro E Q q
  unfold eqBool
  refine wpAny_holding ?_
  have e : ((Value.ref a : Value) == Value.ref a) = true := by simp
  rw [e]
  wp_walk
  exact q
theorem hits_at (A : Around) (hu : A.in1.units + 64 < cLine) {pins : List (Addr × Obj)} {σ : L2.St} {H : Hp} {s : Shared} (I : Inv X pins σ H s) {kbs : List (Key × V)} {vb : List (Key × Value)} (hb : KV kbs vb) :
    ∀ {kas : List (Key × V)} {va : List (Key × Value)} {r : Bool}, KH X.K H kbs kas r → KV kas va → PySem.W.KeqHits A.in1 s vb va r
  | _, _, _, .nil, .nil => .nil
  | _, _, _, .miss (k := k) h, .cons (b := q) hp _ => by
    obtain ⟨k', w⟩ := q
    obtain ⟨e, _⟩ := hp
    have e : k = k' := e
    subst e
    refine .miss ?_
    have t := hb.val k
    rw [h] at t
    cases hv : valueAt vb k with
    | none => rfl
    | some y => rw [hv] at t; cases t
  | _, _, _, .hit (k := k) h hd he sd se rest, .cons (b := q) hp hr => by
    obtain ⟨k', w⟩ := q
    obtain ⟨e, rv⟩ := hp
    have e : k = k' := e
    subst e
    have t := hb.val k
    rw [h] at t
    cases hv : valueAt vb k with
    | none => rw [hv] at t; cases t
    | some y =>
      rw [hv] at t
      obtain ⟨as, r1⟩ := Dp.reads I _ _ _ hd rv
      obtain ⟨bs, r2⟩ := Dp.reads I _ _ _ he t
      exact .hit hv (PySem.W.keq_at r1 r2 sd se hu) (hits_at A hu I hb rest hr)
/-- each of the list's items is a dict, == is known, one is equal -/
def rNinKK (K : PySem.W.Frag) : R2 := fun x y H Q => ∃ a b kas vs, x = .ref a ∧ y = .ref b ∧ Rd H a (.dK kas) ∧ H b = some (.lst vs) ∧
  (∀ v ∈ vs, ∃ c kcs r, v = .ref c ∧ Rd H c (.dK kcs) ∧ KH K H kas kcs r) ∧ (∃ c kcs, V.ref c ∈ vs ∧ Rd H c (.dK kcs) ∧ KH K H kas kcs true ∧ kcs.length = kas.length) ∧ Q (.bl false) H
theorem vals_mem {vs : List V} {us : List Value} (h : Vals vs us) : (∀ u ∈ us, ∃ v ∈ vs, RelV v u) ∧ ∀ v ∈ vs, ∃ u ∈ us, RelV v u := by
  induction h with
  | nil => exact ⟨fun _ h => (nomatch h), fun _ h => (nomatch h)⟩
  | cons hp _ ih =>
    rename_i v u _ _
    refine ⟨fun z hz => ?_, fun z hz => ?_⟩
    · rcases List.mem_cons.mp hz with rfl | hz
      · exact ⟨_, List.mem_cons_self, hp⟩
      · obtain ⟨q, h1, h2⟩ := ih.1 z hz
        exact ⟨q, List.mem_cons_of_mem _ h1, h2⟩
    · rcases List.mem_cons.mp hz with rfl | hz
      · exact ⟨_, List.mem_cons_self, hp⟩
      · obtain ⟨q, h1, h2⟩ := ih.2 z hz
        exact ⟨q, List.mem_cons_of_mem _ h1, h2⟩
theorem hits_P {Kk : Type} [DecidableEq Kk] {prog : Program} {w : World} {A : Around} {s : Shared} {kb : List (Kk × Value)} {ka : List (Kk × Value)} {r : Bool} (h : PySem.W.KeqHits A s kb ka r) : PySem.W.KeqHitsP prog w A s kb ka r := by
  induction h with
  | nil => exact .nil
  | miss h => exact .miss h
  | hit h e _ ih => exact .hit h (fun E Q q => e prog w E Q q) ih
open Classical in
theorem op_ninKK (hu : X.A.units + 66 < cLine) : OpR X (compareOp .NotIn) (rNinKK X.K) := by
  intro pins s σ H x y v u Q I rx ry h
  obtain ⟨a, b, kas, vs, rfl, rfl, ha, hb, hall, ⟨c0, kc0, hc0, hr0, hk0, hl0⟩, q⟩ := h
  cases rx; cases ry
  obtain ⟨its, n, hv, hg, _⟩ := I.lst hb
  obtain ⟨_, na, va, ka, da⟩ := dk_rd I.hok ha
  have hin1 : X.A.in1.units = X.A.units + 1 := rfl
  have cmp : ∀ (c : Addr) (kcs : List (Key × V)) (r : Bool), Rd H c (.dK kcs) → KH X.K H kas kcs r → c ≠ a → SeqAt.EqIn X.prog X.w X.A.in1 s (.ref c) (.ref a) (kcs.length == kas.length && r) := by
    intro c kcs r hc hk hne
    obtain ⟨_, nc, vc, kc, dc⟩ := dk_rd I.hok hc
    refine SeqAt.EqIn.of_refs hne ?_
    intro E Q hq
    rw [kv_len kc, kv_len ka] at hq
    refine PySem.W.rcP_dicts (r := r) nc na dc da (by omega) (fun _ => hits_P (hits_at X.A.in1 (by have : X.A.in1.in1.units = X.A.units + 1 + 1 := rfl; omega) I ka hk kc)) E Q hq
  let g : Value → Bool := fun z => decide (SeqAt.EqIn X.prog X.w X.A.in1 s z (.ref a) true)
  refine nin_in g hg ?_ ?_
  · intro z hz
    obtain ⟨v, hvm, hvr⟩ := (vals_mem hv).1 z (by simpa using hz)
    obtain ⟨c, kcs, r, rfl, hc, hk⟩ := hall v hvm
    have : z = .ref c := hvr
    subst this
    by_cases ht : SeqAt.EqIn X.prog X.w X.A.in1 s (.ref c) (.ref a) true
    · have : g (.ref c) = true := decide_eq_true ht
      rw [this]; exact ht
    · have hgf : g (.ref c) = false := decide_eq_false ht
      rw [hgf]
      by_cases hca : c = a
      · subst hca; exact absurd (same_in c) ht
      · have := cmp c kcs r hc hk hca
        cases hb2 : (kcs.length == kas.length && r) with
        | true => rw [hb2] at this; exact absurd this ht
        | false => rw [hb2] at this; exact this
  · have : its.toArray.any g = true := by
      obtain ⟨z, hz, hzr⟩ := (vals_mem hv).2 _ hc0
      have : z = .ref c0 := hzr
      subst this
      have hgt : g (.ref c0) = true := by
        refine decide_eq_true ?_
        by_cases hca : c0 = a
        · subst hca; exact same_in c0
        · have := cmp c0 kc0 true hr0 hk0 hca
          rw [hl0] at this
          simpa using this
      rw [List.any_toArray, List.any_eq_true]
      exact ⟨_, hz, hgt⟩
    rw [this]
    exact ⟨.bl false, H, I, rfl, q⟩
theorem Cq.u66 {W : WX} {k : Nat} (c : Cq X W k) : X.A.units + 66 < cLine := by have := c.room.un; omega
theorem ninDd_dic (a : List (D × D)) (bs : List D) : ninDd (.dic a) (.lst bs) = if okK a = true ∧ (bs.all fun b => match b with | .dic c => okK c | _ => false) = true ∧ (bs.any fun b => match b with | .dic c => decide (c.length = a.length) && eqvK a c | _ => false) = true then some false else none := rfl
theorem drs_of {K : PySem.W.Frag} {mg : Str → Option Value} {H : Hp} : ∀ {vs : List V} {ds : List D}, DRs K mg H vs ds → (∀ v ∈ vs, ∃ d ∈ ds, DR K mg H v d) ∧ ∀ d ∈ ds, ∃ v ∈ vs, DR K mg H v d
  | _, _, .nil => ⟨fun _ h => (nomatch h), fun _ h => (nomatch h)⟩
  | _, _, .cons r rs => by
    obtain ⟨h1, h2⟩ := drs_of rs
    refine ⟨fun z hz => ?_, fun z hz => ?_⟩
    · rcases List.mem_cons.mp hz with rfl | hz
      · exact ⟨_, List.mem_cons_self, r⟩
      · obtain ⟨q, q1, q2⟩ := h1 z hz
        exact ⟨q, List.mem_cons_of_mem _ q1, q2⟩
    · rcases List.mem_cons.mp hz with rfl | hz
      · exact ⟨_, List.mem_cons_self, r⟩
      · obtain ⟨q, q1, q2⟩ := h2 z hz
        exact ⟨q, List.mem_cons_of_mem _ q1, q2⟩
theorem od_ninDd (hu : X.A.units + 66 < cLine) : OpD X (compareOp .NotIn) (bl2 ninDd) := OpD.cases fun d1 d2 t e => by
  unfold bl2 at e
  cases d1 <;> first | (cases e; done) | skip
  cases d2 <;> first | (cases e; done) | skip
  rename_i as bs
  rw [ninDd_dic] at e
  by_cases hz : okK as = true ∧ (bs.all fun b => match b with | .dic c => okK c | _ => false) = true ∧ (bs.any fun b => match b with | .dic c => decide (c.length = as.length) && eqvK as c | _ => false) = true
  · rw [if_pos hz] at e
    cases e
    refine ⟨_, op_ninKK hu, fun F H x y Q le p1 p2 r1 r2 q => ?_⟩
    obtain ⟨a, ka, rfl, a1, a2⟩ := p1.dict le
    obtain ⟨b, vs, rfl, b1, _, b2⟩ := p2.items le
    obtain ⟨m1, m2⟩ := drs_of (DRs.mono le b2)
    obtain ⟨z1, z2, z3⟩ := hz
    rw [List.all_eq_true] at z2
    have item : ∀ v d, d ∈ bs → DR X.K X.mg H v d → ∃ c kcs cs, d = .dic cs ∧ v = .ref c ∧ Rd H c (.dK kcs) ∧ KH X.K H ka kcs (eqvK as cs) ∧ kcs.length = cs.length := by
      intro v d hd r
      have ok := z2 d hd
      cases d <;> first | (cases ok; done) | skip
      rename_i cs
      cases r with
      | dK h1 h2 => exact ⟨_, _, cs, rfl, rfl, h1, drk_ok (a2.mono le) z1 h2 ok, drk_len h2⟩
    refine ⟨a, b, ka, vs, rfl, rfl, a1, b1, ?_, ?_, q.bl le⟩
    · intro v hv
      obtain ⟨d, hd, r⟩ := m1 v hv
      obtain ⟨c, kcs, cs, _, h2, h3, h4, _⟩ := item v d hd r
      exact ⟨c, kcs, _, h2, h3, h4⟩
    · rw [List.any_eq_true] at z3
      obtain ⟨d, hd, hm⟩ := z3
      obtain ⟨v, hv, r⟩ := m2 d hd
      obtain ⟨c, kcs, cs, rfl, rfl, h3, h4, h5⟩ := item v d hd r
      have hm : (decide (cs.length = as.length) && eqvK as cs) = true := hm
      rw [Bool.and_eq_true, decide_eq_true_eq] at hm
      rw [hm.2] at h4
      exact ⟨c, kcs, hv, h3, h4, by rw [h5, hm.1, drk_len a2]⟩
  · rw [if_neg hz] at e; cases e
end
end Rx
end

section
/-! Rx, part 40: an instance is made; arguments by reference. -/
namespace Rx
open PySem PySem.Spec PyProof.Rows L2
variable [Prw]
/-- the class c is made by the def f, its arguments by reference as ms says -/
structure HasMkR (P : Program) (w : World) (K : PySem.W.Frag) (mg : Str → Option Value) (base : Heap) (k : Nat) (c : Str) (ms : List Bool) (f : Fn) : Prop where
  ex : ∃ (C fI : Addr) (fd : FuncData) (ps : List Str), FnOk P w K mg base (L2.CX P w) k fI fd ps (spF K mg (true :: ms) f) ∧ mg c = some (.ref C) ∧ Mk K C fI ∧ Binds K fd ps []
section
variable {X : Cx} {W : WX} {k : Nat} {pos p : Pos} {e : Expr} {es : List Expr} {xs : List IE}
theorem mkr_end {x : Str} {C : Addr} {ms : List Bool} {f : Fn} {σ : L2.St} {H F : Hp} {fp : List Addr} {Q : VK} {vs : List V} {as : List (Slot × Option Nat)} {e1 : Ev} {H1 F1 : Hp} {fpe fpa : List Addr} (hC : X.mg x = some (.ref C)) (hl : as.length = ms.length)
    (p : AsPost X.K X.mg H F fp σ e1 vs as H1 F1 fpe fpa) (h : WP X.K X.mg W σ H F fp (callF (mkF x f) as e1) (FinV X.K X.mg H F fp σ Q)) (y dx : Addr) (hy : H1 y = none) (hdx : H1 dx = none) (hne : dx ≠ y) :
    spF X.K X.mg (true :: ms) f (.ref y :: vs) (upd (upd H1 dx (.own y)) y (.ins C dx [])) (fun v H2 => v = .non ∧ Q (.ref y) H2) (WE W σ) := by
  have hlen : ∀ {vs : List V} {as : List (Slot × Option Nat)}, Bk σ vs as → vs.length = as.length := fun {vs as} b => by
    induction b with
    | nil => rfl
    | cons _ _ ih => simp [ih]
  have hl0 := (hlen p.bk).trans hl
  clear hl
  obtain ⟨as, e1, fpe, fpa, p, h⟩ := p.take h
  have hy2 : upd H1 dx (.own y) y = none := by rw [upd_ne (Ne.symm hne)]; exact hy
  have sA : Stp H1 F1 (fpa ++ fpe) (upd (upd H1 dx (.own y)) y (.ins C dx [])) F1 (y :: (fpa ++ fpe)) := ((Stp.newO hdx).sub fun a ha => List.mem_cons_of_mem _ ha : Stp H1 F1 (fpa ++ fpe) (upd H1 dx (.own y)) F1 (fpa ++ fpe)).trans (Stp.newO hy2)
  have le2 : Same F1 (upd (upd H1 dx (.own y)) y (.ins C dx [])) := same_new (same_new p.ss.le hdx) hy2
  have kp : ∀ a o, H1 a = some o → upd (upd H1 dx (.own y)) y (.ins C dx []) a = some o := fun a o h => by
    rw [upd_ne (ne_of_none h hy), upd_ne (ne_of_none h hdx)]; exact h
  have env2 : EvR X.K X.mg (upd (upd H1 dx (.own y)) y (.ins C dx [])) F1 σ e1 fpe := p.ss.env.keep (Same.refl _) fun a _ o h => kp a o h
  have val2 : EvR X.K X.mg (upd (upd H1 dx (.own y)) y (.ins C dx [])) F1 (vs.map some) (as.map (·.1)) fpa := p.val.keep (Same.refl _) fun a _ o h => kp a o h
  have yfpe : y ∉ fpe := fun z => by
    obtain ⟨o, h⟩ := p.ss.env.there y z
    rw [hy] at h; cases h
  have yfpa : y ∉ fpa := fun z => by
    obtain ⟨o, h⟩ := p.val.there y z
    rw [hy] at h; cases h
  have Fy : F1 y = none := Same.free p.ss.le hy
  have nd : ∀ a ∈ fpe, a ∉ [y] ++ fpa := fun a ha z => by
    rcases List.mem_append.mp z with z | z
    · have : a = y := by simpa using z
      exact yfpe (by rw [← this]; exact ha)
    · exact p.dis a z ha
  refine ⟨by simp only [List.length_cons]; rw [hl0], F1, _, [y] ++ fpa, le2, .cons (fp := [y]) (fps := fpa) (.so (.ins upd_same hC .nil (fun z => nomatch z))) val2 (fun a ha z => yfpa (by
    have : a = y := by simpa using ha
    rw [← this]; exact z)), fun a ha => ?_, ?_⟩
  · rcases List.mem_append.mp ha with ha | ha
    · have : a = y := by simpa using ha
      rw [this]; exact Fy
    · exact p.own a ha
  have h : WP X.K X.mg W σ H F fp (callG (mkF x f) as e1) (FinV X.K X.mg H F fp σ Q) := h
  unfold callG mkF at h
  cases hf : f (some (.ins x []) :: as.map (·.1)) with
  | bad => rw [hf] at h; exact h.elim
  | exn z outs =>
    rw [hf] at h
    intro cls d H' F' fpo st le' eo ow ex
    cases eo with
    | cons sl er dd =>
      rename_i o1 outs g gs
      have st2 := st.frame (gp := fpe)
      obtain ⟨k1, k2, k3⟩ := st.held (gp := fpe) env2.there nd p.ss.own
      obtain ⟨fp', g1, g2⟩ := giveBack_ok p.bk er (env2.keep st.fz k1) fun a ha q => k3 a q (List.mem_append_right _ ha)
      have h : Xc X.K X.mg W σ H F fp z (giveBack as outs e1) := h
      refine h cls d H' F' fp' ((p.st.trans (sA.trans (by simpa using st2))).sub fun a ha => ?_) ⟨le', g1, fun a ha => (g2 a ha).elim (fun q => ow a (List.mem_append_right _ q)) (k2 a)⟩ ex
      rcases g2 a ha with q | q <;> simp [q]
  | ok r outs =>
    rw [hf] at h
    intro v H' F' fpo fpv' st le' eo ov dis owo owv
    cases r with
    | lst ts => exact h.elim
    | dic ts => exact h.elim
    | din ts => exact h.elim
    | ins c ts => exact h.elim
    | fz d =>
      cases d <;> first | exact h.elim | skip
      cases outs with
      | nil => exact h.elim
      | cons o1 outs =>
        cases o1 with
        | none => exact h.elim
        | some o1 =>
          have h : FinV X.K X.mg H F fp σ Q o1 (giveBack as outs e1) := h
          cases ov with
          | fz dv =>
            cases dv
            refine ⟨rfl, ?_⟩
            cases eo with
            | cons sl er dd =>
              rename_i g gs
              cases sl with
              | so oo =>
                have st2 := st.frame (gp := fpe)
                obtain ⟨k1, k2, k3⟩ := st.held (gp := fpe) env2.there nd p.ss.own
                obtain ⟨fp', g1, g2⟩ := giveBack_ok p.bk er (env2.keep st.fz k1) fun a ha q => k3 a q (List.mem_append_right _ (List.mem_append_right _ ha))
                refine h (.ref y) H' F' fp' g ⟨((p.st.trans (sA.trans (by simpa using st2))).sub fun a ha => ?_), ⟨le', g1, fun a ha => (g2 a ha).elim (fun z => owo a (List.mem_append_right _ z)) (k2 a)⟩, oo, fun a ha z => ?_, fun a ha => owo a (List.mem_append_left _ ha)⟩
                · rcases List.mem_append.mp ha with ha | ha
                  · simp [ha]
                  · rcases g2 a ha with z | z <;> simp [z]
                · rcases g2 a z with q | q
                  · exact dd a ha q
                  · exact k3 a q (List.mem_append_right _ (List.mem_append_left _ ha))
/-- C(..), by reference -/
theorem e_mkr {x : Str} {ms : List Bool} {f : Fn} {j : Nat} (c : Cq X W k) (M : HasMkR X.prog X.w X.K X.mg X.base j x ms f) (ha : JLA X W ms xs (e :: es)) (hk : decide (j + 1 ≤ k) = true := by rfl) (hl : xs.length = ms.length := by rfl) (hg : Gl X x := by rfl) (hdb : (x == ("__debug__" : Str)) = false := by decide)
    (he : starEach (e :: es) X.env = (false, eval e X.env) :: starEach es X.env := by rfl) (hpl : (backTo pos (starEach es X.env)).any (·.1) = false := by rfl) : JE X W (.call x ms (mkF x f) xs) (.Call (.Name x p) (e :: es) [] pos) := by
  obtain ⟨C, fI, fd, ps, Fk, hC, Mk, hb⟩ := M.ex
  refine PE.imp (pe_makeS (E := WE W) Mk Fk (c.room.mono (of_decide_eq_true hk)) hg hC hb (fun σ => passAt c.tk σ) ha hdb he hpl) fun σ H Q q => ?_
  obtain ⟨F, en, fp, ss, q⟩ := q
  have q : WP X.K X.mg W σ H F fp ((evArgs ms xs en).bind fun as e1 => callF (mkF x f) as e1) (FinV X.K X.mg H F fp σ Q) := q
  refine ⟨F, en, fp, ss, ?_⟩
  cases hm : evArgs ms xs en with
  | bad => rw [hm] at q; exact q.elim
  | exn z e1 => rw [hm] at q; exact q
  | ok as e1 =>
    rw [hm] at q
    intro vs H1 F1 fpe fpa pp y dx hy hdx hne
    exact mkr_end hC (by rw [evArgs_length hm, hl]) pp q y dx hy hdx hne
end
end Rx
end

section
/-! Rx, part 41: a comprehension that keeps what it makes as its own. -/
namespace Rx
open PySem PySem.Spec PyProof.Rows L2
variable [Prw]
section
variable (K : PySem.W.Frag) (mg : Str → Option Value)
structure OwL (H F : Hp) (L : Addr) (vacc : List V) (acc : List OT) (fa fp : List Addr) : Prop where
  obj : H L = some (.lst vacc)
  lF : F L = none
  lfp : L ∉ fp
  lfa : L ∉ fa
  rel : OTRs K mg H F vacc acc fa
  dis : ∀ a ∈ fa, a ∉ fp
  own : ∀ a ∈ fa, F a = none
end
section
variable {K : PySem.W.Frag} {mg : Str → Option Value} {W : WX} {H F H' F' H1 F1 H0 F0 : Hp} {fp fp' fp1 fp0 fpe fpv fa : List Addr} {L : Addr} {vacc : List V} {acc : List OT}
theorem OwL.step (o : OwL K mg H F L vacc acc fa fp) (st : Stp H F fp H' F' fp') : OwL K mg H' F' L vacc acc fa fp' := by
  obtain ⟨b1, b2, b3⟩ := st.held (gp := L :: fa) (fun a ha => by
    rcases List.mem_cons.mp ha with rfl | ha
    · exact ⟨_, o.obj⟩
    · exact o.rel.there a ha) (fun a ha => by
    rcases List.mem_cons.mp ha with rfl | ha
    · exact o.lfp
    · exact o.dis a ha) (fun a ha => by
    rcases List.mem_cons.mp ha with rfl | ha
    · exact o.lF
    · exact o.own a ha)
  exact ⟨b1 L List.mem_cons_self _ o.obj, b2 L List.mem_cons_self, b3 L List.mem_cons_self, o.lfa, o.rel.keep st.fz fun a ha => b1 a (List.mem_cons_of_mem _ ha), fun a ha => b3 a (List.mem_cons_of_mem _ ha), fun a ha => b2 a (List.mem_cons_of_mem _ ha)⟩
theorem OwL.sub (o : OwL K mg H F L vacc acc fa fp) (h : ∀ a ∈ fp', a ∈ fp) : OwL K mg H F L vacc acc fa fp' := ⟨o.obj, o.lF, fun z => o.lfp (h _ z), o.lfa, o.rel, fun a ha z => o.dis a ha (h a z), o.own⟩
theorem OwL.len (o : OwL K mg H F L vacc acc fa fp) : vacc.length = acc.length := o.rel.len
end
section
variable {X : Cx} {W : WX} {pos : Pos} {elt iter tg : Expr} {ifs : List Expr} {scope : Scope}
theorem lc_coreO {K : PySem.W.Frag} {mg : Str → Option Value} {tgt : TGt} {mc : M Bool} {me : M OT} {own : List Nat} {σ : L2.St} {H F H1 F1 : Hp} {fp fp1 : List Addr} {e1 : Ev} {J : It} {xs : List D} {Q : VK} (ht : (tgt.has.all fun j => own.contains j) = true)
    (wk : DWalk K mg J F1 xs) (s1 : Stp H F fp H1 F1 fp1) (ss1 : SS K mg H1 F1 σ e1 fp1) (h : WP K mg W σ H F fp (lcRunO own tgt mc me xs e1) (FinV K mg H F fp σ Q)) : tLc (fun _ H R => R J H) (gOf K tgt) (tDb K mg W0 mc) (tD K mg W0 me) own σ H1 Q := by
  intro L hL
  unfold lcRunO at h
  cases hok : ownOk e1 own with
  | false => rw [hok] at h; exact h.elim
  | true =>
    rw [hok] at h
    have hnd := ownOk_nodup hok
    have hod := own_data hok ss1.env
    refine ⟨fun i m H2 => i ≤ xs.length ∧ m = xs.length - i ∧ ∃ F2 e2 fp2 vacc acc fa, Stp H1 F1 fp1 H2 F2 (L :: (fa ++ fp2)) ∧ SS K mg H2 F2 (L2.wipe σ own) (wipeE e2 own) fp2 ∧ OwL K mg H2 F2 L vacc acc fa fp2 ∧ vacc.length ≤ i ∧ i ≤ sizeLine ∧ xs.length ≤ sizeLine ∧
      WP K mg W σ H F fp ((lcGoO own tgt mc me (xs.drop i) acc e2).bind fun acc e' => .ok (.lst acc) (restE e1 (wipeE e' own) own)) (FinV K mg H F fp σ Q), ?_, ?_⟩
    · obtain ⟨fp2, g1, g2⟩ := ss1.env.wipe own
      refine ⟨xs.length, Nat.zero_le _, rfl, F1, e1, fp2, [], [], [], ?_, ⟨same_new ss1.le hL, ?_, fun a ha => ss1.own a (g2 a ha)⟩, ⟨upd_same, Same.free ss1.le hL, fun z => ?_, (fun z => nomatch z), .nil, (fun _ z => nomatch z), (fun _ z => nomatch z)⟩, Nat.le_refl _, Nat.zero_le _, ?_, h⟩
      · exact (Stp.newO hL).sub fun a ha => (List.mem_cons.mp ha).elim (fun z => by rw [z]; exact List.mem_cons_self) fun z => List.mem_cons_of_mem _ (g2 a z)
      · exact g1.keep (Same.refl _) fun a ha o q => by rw [upd_ne (ne_of_none q hL)]; exact q
      · obtain ⟨o, q⟩ := g1.there L z
        rw [hL] at q; cases q
      · exact wk.few
    · rintro i m H2 ⟨hi, rfl, F2, e2, fp2, vacc, acc, fa, s2, ss2, ow, hva, hil, hxl, h2⟩
      have wk2 : DWalk K mg J F2 xs := wk.mono s2.fz
      by_cases hlt : i < xs.length
      · refine .inr ⟨wk2.goes i H2 ss2.le hlt, ?_⟩
        have hd : xs.drop i = xs[i] :: xs.drop (i + 1) := List.drop_eq_getElem_cons hlt
        rw [hd] at h2
        refine ⟨fun H5 => ∃ F5 e5 fp5 vacc5 acc5 fa5, Stp H1 F1 fp1 H5 F5 (L :: (fa5 ++ fp5)) ∧ SS K mg H5 F5 (L2.wipe σ own) (wipeE e5 own) fp5 ∧ OwL K mg H5 F5 L vacc5 acc5 fa5 fp5 ∧ vacc5.length ≤ i + 1 ∧
          WP K mg W σ H F fp ((lcGoO own tgt mc me (xs.drop (i + 1)) acc5 e5).bind fun acc e' => .ok (.lst acc) (restE e1 (wipeE e' own) own)) (FinV K mg H F fp σ Q), ?_, ?_⟩
        · rintro H5 ⟨F5, e5, fp5, vacc5, acc5, fa5, k1, k2, k3, k7, k8⟩
          exact ⟨xs.length - (i + 1), by omega, hlt, rfl, F5, e5, fp5, vacc5, acc5, fa5, k1, k2, k3, k7, by omega, hxl, k8⟩
        · intro x H3 hy
          obtain ⟨d, F3, hd1, st3, le3, rd⟩ := wk2.yields i H2 x H3 F2 (Same.refl _) ss2.le hlt hy
          have hd2 : xs[i] = d := Option.some.inj ((List.getElem?_eq_getElem hlt).symm.trans hd1)
          rw [hd2] at h2
          obtain ⟨k1, k2, k3⟩ := st3.held ss2.env.there (fun a _ q => nomatch q) ss2.own
          have ow3 : OwL K mg H3 F3 L vacc acc fa fp2 := by
            have a1 := (ow.sub (fp' := []) fun _ z => nomatch z).step st3
            exact ⟨a1.obj, a1.lF, ow.lfp, a1.lfa, a1.rel, ow.dis, a1.own⟩
          have ss3 : SS K mg H3 F3 (L2.wipe σ own) (wipeE e2 own) fp2 := ⟨le3, ss2.env.keep st3.fz k1, k2⟩
          have s3 : Stp H1 F1 fp1 H3 F3 (L :: (fa ++ fp2)) := s2.trans (by simpa using st3.frame (gp := L :: (fa ++ fp2)))
          cases hb : bindT tgt d (wipeE e2 own) with
          | none =>
            have : lcGoO own tgt mc me (d :: xs.drop (i + 1)) acc e2 = .bad := by
              show (match bindT tgt d (wipeE e2 own) with | none => _ | some e1 => _) = _
              rw [hb]
            rw [this] at h2
            exact h2.elim
          | some e3 =>
            have eq : lcGoO own tgt mc me (d :: xs.drop (i + 1)) acc e2 = (noX (mc e3)).bind fun b e4 => pickB b ((noX (me e4)).bind fun t e5 => lcGoO own tgt mc me (xs.drop (i + 1)) (acc ++ [t]) e5) (lcGoO own tgt mc me (xs.drop (i + 1)) acc e4) := by
              show (match bindT tgt d (wipeE e2 own) with | none => _ | some e1 => _) = _
              rw [hb]
            rw [eq] at h2
            refine bindT_ok (P := fun i => !own.contains i) tgt (by simpa using ht) rd hb ss3 fun σ3 fp3 ss4 sub3 pr3 len3 => ?_
            have hw : L2.wipe σ3 own = L2.wipe σ own := by
              rw [wipe_eq len3 pr3, wipe_wipe]
            refine ⟨hw, F3, e3, fp3, ss4, ?_⟩
            have ow4 : OwL K mg H3 F3 L vacc acc fa fp3 := ow3.sub sub3
            have fin : ∀ {H5 F5 : Hp} {fp5 : List Addr} {e5 : Ev} {vacc5 : List V} {acc5 : List OT} {fa5 : List Addr}, Stp H1 F1 fp1 H5 F5 (L :: (fa5 ++ fp5)) → SS K mg H5 F5 σ3 e5 fp5 → OwL K mg H5 F5 L vacc5 acc5 fa5 fp5 → vacc5.length ≤ i + 1 →
                WP K mg W σ H F fp ((lcGoO own tgt mc me (xs.drop (i + 1)) acc5 e5).bind fun acc e' => .ok (.lst acc) (restE e1 (wipeE e' own) own)) (FinV K mg H F fp σ Q) →
                ∃ F5 e5 fp5 vacc5 acc5 fa5, Stp H1 F1 fp1 H5 F5 (L :: (fa5 ++ fp5)) ∧ SS K mg H5 F5 (L2.wipe σ own) (wipeE e5 own) fp5 ∧ OwL K mg H5 F5 L vacc5 acc5 fa5 fp5 ∧ vacc5.length ≤ i + 1 ∧
                  WP K mg W σ H F fp ((lcGoO own tgt mc me (xs.drop (i + 1)) acc5 e5).bind fun acc e' => .ok (.lst acc) (restE e1 (wipeE e' own) own)) (FinV K mg H F fp σ Q) := fun {H5 F5 fp5 e5 vacc5 acc5 fa5} g1 g2 g3 g7 g8 => by
              obtain ⟨fp6, w1, w2⟩ := g2.env.wipe own
              rw [hw] at w1
              exact ⟨F5, e5, fp6, vacc5, acc5, fa5, g1.sub fun a ha => (List.mem_cons.mp ha).elim (fun z => by rw [z]; exact List.mem_cons_self) fun z => List.mem_cons_of_mem _ ((List.mem_append.mp z).elim (fun y => List.mem_append_left _ y) fun y => List.mem_append_right _ (w2 a y)), ⟨g2.le, w1, fun a ha => g2.own a (w2 a ha)⟩, g3.sub w2, g7, g8⟩
            have s3' : Stp H1 F1 fp1 H3 F3 (L :: (fa ++ fp3)) := s3.sub fun a ha => (List.mem_cons.mp ha).elim (fun z => by rw [z]; exact List.mem_cons_self) fun z => List.mem_cons_of_mem _ ((List.mem_append.mp z).elim (fun y => List.mem_append_left _ y) fun y => List.mem_append_right _ (sub3 a y))
            cases hmc : mc e3 with
            | bad => rw [hmc] at h2; exact h2.elim
            | exn x' e4 => rw [hmc] at h2; exact h2.elim
            | ok bb e4 =>
              rw [hmc] at h2
              intro H4 F4 fp4 st4 ss5
              have ow5 := ow4.step st4
              have s4 : Stp H1 F1 fp1 H4 F4 (L :: (fa ++ fp4)) := s3'.trans (by simpa using st4.frameL (gp := L :: fa))
              cases bb with
              | false =>
                refine iteF (fin s4 ss5 ow5 (by omega) h2)
              | true =>
                have h2 : WP K mg W σ H F fp (((noX (me e4)).bind fun t e5 => lcGoO own tgt mc me (xs.drop (i + 1)) (acc ++ [t]) e5).bind fun acc e' => .ok (.lst acc) (restE e1 (wipeE e' own) own)) (FinV K mg H F fp σ Q) := h2
                refine iteT ⟨F4, e4, fp4, ss5, ?_⟩
                cases hme : me e4 with
                | bad => rw [hme] at h2; exact h2.elim
                | exn x' e5 => rw [hme] at h2; exact h2.elim
                | ok t e5 =>
                  rw [hme] at h2
                  intro y H5 F5 fpe5 fpv5 p5
                  have ow6 := ow5.step p5.st
                  refine ⟨vacc, ow6.obj, by have := sizeLine_eq; omega, ?_⟩
                  have hupd : ∀ (S : List Addr), L ∉ S → ∀ a ∈ S, ∀ o, H5 a = some o → upd H5 L (.lst (vacc ++ [y])) a = some o := fun S hS a ha o q => by
                    rw [upd_ne (fun z => hS (by rw [← z]; exact ha))]; exact q
                  have n1 : L ∉ fpv5 := fun z => ow6.lfp (List.mem_append_left _ z)
                  have n2 : L ∉ fpe5 := fun z => ow6.lfp (List.mem_append_right _ z)
                  refine fin (F5 := F5) (fp5 := fpe5) (vacc5 := vacc ++ [y]) (acc5 := acc ++ [t]) (fa5 := fa ++ fpv5) ?_ ⟨fun a o q => ?_, p5.ss.env.keep (Same.refl _) (hupd _ n2), p5.ss.own⟩
                    ⟨upd_same, ow6.lF, n2, fun z => (List.mem_append.mp z).elim ow6.lfa n1, OTRs.snoc (ow6.rel.keep (Same.refl _) (hupd _ ow6.lfa)) (p5.val.keep (Same.refl _) (hupd _ n1)) fun a ha z => ow6.dis a z (List.mem_append_left _ ha),
                      fun a ha z => (List.mem_append.mp ha).elim (fun y => ow6.dis a y (List.mem_append_right _ z)) fun y => p5.dis a y z, fun a ha => (List.mem_append.mp ha).elim (ow6.own a) (p5.own a)⟩ (by rw [List.length_append]; simp; omega) h2
                  · have q := (s4.trans (p5.st.frameL (gp := L :: fa))).trans (Stp.wr (p := L) (o := .lst (vacc ++ [y])) (List.mem_append_left _ List.mem_cons_self))
                    refine q.sub fun a ha => ?_
                    simp only [List.mem_cons, List.mem_append] at ha ⊢
                    rcases ha with h | (h | h) | h
                    · exact .inl (.inl h)
                    · exact .inl (.inr h)
                    · exact .inr (.inl h)
                    · exact .inr (.inr h)
                  · have : a ≠ L := fun z => by rw [z, ow6.lF] at q; cases q
                    rw [upd_ne this]
                    exact p5.ss.le a o q
      · have ei : i = xs.length := by omega
        subst ei
        refine .inl ⟨wk2.stops H2 ss2.le, ?_⟩
        rw [List.drop_length] at h2
        have h2 : FinV K mg H F fp σ Q (.lst acc) (restE e1 (wipeE e2 own) own) := h2
        obtain ⟨fp3, r1, r2⟩ := rest_ok own hnd (fun j hj => (hod j hj).imp id fun ⟨d, v, a1, a2, a3⟩ => ⟨d, v, a1, a2, a3.mono s2.fz⟩) ss2.env
        have hzl : vacc.length ≤ sizeLine := by omega
        refine h2 (.ref L) H2 F2 fp3 (L :: fa) ⟨(s1.trans s2).sub fun a ha => ?_, ⟨ss2.le, r1, fun a ha => ss2.own a (r2 a ha)⟩, .lst ow.obj hzl ow.rel ow.lfa, fun a ha q => ?_, fun a ha => ?_⟩
        · rw [List.cons_append] at ha
          exact (List.mem_cons.mp ha).elim (fun z => by rw [z]; exact List.mem_cons_self) fun z => List.mem_cons_of_mem _ ((List.mem_append.mp z).elim (fun y => List.mem_append_left _ y) fun y => List.mem_append_right _ (r2 a y))
        · rcases List.mem_cons.mp ha with rfl | ha
          · exact ow.lfp (r2 _ q)
          · exact ow.dis a ha (r2 a q)
        · rcases List.mem_cons.mp ha with rfl | ha
          · exact ow.lF
          · exact ow.own a ha
theorem lcO_use {K : PySem.W.Frag} {mg : Str → Option Value} {tgt : TGt} {mc : M Bool} {me : M OT} {own : List Nat} {mi : M (List D)} {σ : L2.St} {H : Hp} {Q : VK} (ht : (tgt.has.all fun j => own.contains j) = true)
    (h : tD K mg W (M.bind mi fun xs => lcRunO own tgt mc me xs) σ H Q) : tLc (tI K mg W mi) (gOf K tgt) (tDb K mg W0 mc) (tD K mg W0 me) own σ H Q := by
  obtain ⟨F, e0, fp, ss, h⟩ := h
  have h : WP K mg W σ H F fp ((mi e0).bind fun xs e1 => lcRunO own tgt mc me xs e1) (FinV K mg H F fp σ Q) := h
  refine ⟨F, e0, fp, ss, ?_⟩
  cases hm : mi e0 with
  | bad => rw [hm] at h; exact h.elim
  | exn x e1 => rw [hm] at h; exact h
  | ok xs e1 =>
    rw [hm] at h
    intro J H1 F1 fp1 s1 ss1 wk
    exact lc_coreO ht wk s1 ss1 h
end
section
variable {X : Cx} {W : WX} {k : Nat} {P : Nat → Bool} {pos : Pos} {elt iter tg : Expr} {x : IE}
/-- y = [e for ..] on one row, what is made being its own -/
theorem s_lcO (j : Nat) {y : Str} {own : List (Str × Nat)} {sc : Scope} {tgt : TGt} {it : ITK} {its : List IE} {cc : Option IE} {ifs : List Expr} {py spos : Pos} (c : Cq X W k) (hi : JI X W it its tg iter) (hg : ∀ (s : Shared) (H : Hp) (C : Addr) (cl : List (Str × Addr)) (fp : List Addr), JG (X.blk s H sc (compEnvC sc cl C X.env) fp) tgt tg)
    (ht : ∀ (s : Shared) (H : Hp) (C : Addr) (cl : List (Str × Addr)) (fp : List Addr), JC (X.blk s H sc (compEnvC sc cl C X.env) fp) W0 cc ifs) (he : ∀ (s : Shared) (H : Hp) (C : Addr) (cl : List (Str × Addr)) (fp : List Addr), JE (X.blk s H sc (compEnvC sc cl C X.env) fp) W0 x elt)
    (hk : X.env.scope.kind = .function := by rfl) (hP : P j = false := by rfl) (hy : X.N[j]? = some y := by rfl) (hyl : X.env.scope.names.lookup y = some .local := by rfl) (hl : (py.line == pos.line) = true := by rfl) (ha : (sc.names.any fun (n, k) => n == y && (k == .local || k == .cell)) = false := by decide +kernel) (ok : blkC X.N X.env.scope sc own = true := by rfl) (hw : (tgt.has.all fun j => (own.map (·.2)).contains j) = true := by rfl) (hs : ∀ x, foldedSetIterable iter X.env x = pure x := by intro _; rfl) :
    JS X W P (.asg j (.lcO tgt it its cc x (own.map (·.2)))) (.Assign [.Name y py] (.ListComp elt [⟨tg, iter, ifs, 0⟩] sc pos) spos) := by
  refine ps_asgD hP (ps_setLc (g := gOf X.K tgt) (tt := tDb X.K X.mg W0 (semOpt cc)) (te := tD X.K X.mg W0 (sem x).1) c.calm c.nd hy hyl (sw_true hk hyl hl ha) hi (blkOk_by ok) hg ht he hs) fun σ H Q h => ?_
  exact lcO_use hw (by
    obtain ⟨F, e, fp, ss, h⟩ := h
    refine ⟨F, e, fp, ss, ?_⟩
    have h : WP X.K X.mg W σ H F fp ((evs its e).bind fun ts e1 => (M.lift (itemsOf it (OT.views ts)) e1).bind fun xs e2 => lcRunO (own.map (·.2)) tgt (semOpt cc) (sem x).1 xs e2) (FinV X.K X.mg H F fp σ Q) := h
    show WP X.K X.mg W σ H F fp (((evs its e).bind fun ts e1 => (M.lift (itemsOf it (OT.views ts)) e1)).bind fun xs e2 => lcRunO (own.map (·.2)) tgt (semOpt cc) (sem x).1 xs e2) (FinV X.K X.mg H F fp σ Q)
    cases hm : evs its e with
    | bad => rw [hm] at h; exact h
    | exn y e1 => rw [hm] at h; exact h
    | ok ts e1 => rw [hm] at h; exact h)
end
end Rx
end

section
/-! Rx, part 42: a block of a program is borrowed under a name of its own. -/
namespace Rx
open PySem PySem.Spec PyProof.Rows L2
variable [Prw]
section
variable {K : PySem.W.Frag} {mg : Str → Option Value} {H F H' F' H1 F1 H0 F0 : Hp} {fp fp' fp1 fp0 fpe fpv : List Addr} {σ σ' : L2.St} {e : Ev}
theorem EvR.kfz : ∀ {σ : L2.St} {e : Ev} {fp : List Addr}, EvR K mg H F σ e fp → EvR K mg H F σ (e.map Rx.kfz) []
  | _, _, _, .nil => .nil
  | _, _, _, .cons s r n => by
    have r2 := EvR.kfz r
    refine .cons (fp := []) (fps := []) ?_ r2 fun _ z => nomatch z
    cases s with
    | no => exact .no
    | so o =>
      cases o with
      | fz d => exact .so (.fz d)
      | lst => exact .no
      | dK => exact .no
      | dN => exact .no
      | ins => exact .no
theorem EvR.swap : ∀ {σ σ' : L2.St} {e : Ev} {fp : List Addr}, EvR K mg H F σ e fp → σ'.length = σ.length → (∀ j, e.at j ≠ none → σ'[j]? = σ[j]?) → EvR K mg H F σ' e fp
  | _, σ', _, _, .nil, hl, _ => by cases σ' with | nil => exact .nil | cons a b => cases hl
  | _, σ', _, _, .cons (s := s) (o := o) (σ := σ) sl r n, hl, h => by
    cases σ' with
    | nil => cases hl
    | cons s' σ' =>
      refine .cons ?_ (EvR.swap r (by simpa using hl) fun j hj => by simpa using h (j + 1) (by simpa [Ev.at] using hj)) n
      cases sl with
      | no => exact .no
      | so q =>
        have := h 0 (by simp [Ev.at])
        simp at this
        rw [this]; exact .so q
theorem wipeE_at : ∀ {js : List Nat} {e : Ev} {j : Nat}, j ∈ js → (wipeE e js).at j = none
  | i :: js, e, j, h => by
    show ((wipeE e js).set i none).getD j none = none
    by_cases q : i = j
    · subst q
      rw [List.getD_eq_getElem?_getD]
      by_cases hl : i < (wipeE e js).length
      · rw [List.getElem?_set_self hl]; rfl
      · rw [List.getElem?_eq_none (by rw [List.length_set]; omega)]; rfl
    · have := wipeE_at (e := e) (j := j) (js := js) (by
        rcases List.mem_cons.mp h with z | z
        · exact absurd z.symm q
        · exact z)
      unfold Ev.at at this
      rw [List.getD_eq_getElem?_getD] at this ⊢
      rw [List.getElem?_set_ne q]; exact this
theorem EvR.forgets : ∀ (js : List Nat) {e : Ev} {fp : List Addr}, EvR K mg H F σ e fp → ∃ fp', EvR K mg H F σ (wipeE e js) fp' ∧ (∀ a ∈ fp', a ∈ fp)
  | [], e, fp, r => ⟨fp, r, fun _ q => q⟩
  | v :: vs, e, fp, r => by
    obtain ⟨fp1, h1, h2⟩ := EvR.forgets vs r
    obtain ⟨fp2, h3, h4⟩ := h1.forget v
    exact ⟨fp2, h3, fun a ha => h2 a (h4 a ha)⟩
/-- where a function's body stands -/
def adrE (H : Hp) (v : V) : Nat := match v with
  | .ref q => (match H q with
    | some (.lst [_, _, .ref b]) => b
    | _ => 0)
  | _ => 0
/-- a function, taken apart -/
theorem fc_open {v : V} {f : FcO} {g : List Addr} (o : OTR K mg H F v (.lst [f.1, f.2.1, .lst f.2.2]) g) : ∃ q vn vp b vb gn gp gb, v = .ref q ∧ H q = some (.lst [vn, vp, .ref b]) ∧ OTR K mg H F vn f.1 gn ∧ OTR K mg H F vp f.2.1 gp ∧ H b = some (.lst vb) ∧ vb.length ≤ sizeLine ∧ OTRs K mg H F vb f.2.2 gb ∧
    (∀ a ∈ gn, a ∈ g) ∧ (∀ a ∈ gp, a ∈ g) ∧ b ∈ g ∧ q ∈ g := by
  cases o with
  | lst hl hz r n =>
    cases r with
    | cons o1 r1 n1 =>
      cases r1 with
      | cons o2 r2 n2 =>
        cases r2 with
        | cons o3 r3 n3 =>
          cases r3
          cases o3 with
          | lst hb hzb rb nb =>
            exact ⟨_, _, _, _, _, _, _, _, rfl, hl, o1, o2, hb, hzb, rb, fun a ha => List.mem_cons_of_mem _ (List.mem_append_left _ ha), fun a ha => List.mem_cons_of_mem _ (List.mem_append_right _ (List.mem_append_left _ ha)),
              List.mem_cons_of_mem _ (List.mem_append_right _ (List.mem_append_right _ (List.mem_append_left _ List.mem_cons_self))), List.mem_cons_self⟩
theorem fcs_ali {α : Nat → Nat} (hs : Same F F1) : ∀ {fs : List FcO} {vs : List V} {fp : List Addr} {k : Nat}, OTRs K mg H F vs (fcsO fs) fp → (∀ a ∈ fp, F1 a = H a) → (∀ i v, vs[i]? = some v → α (k + i) = adrE H v) → DRs K mg F1 vs (aliG α k fs)
  | [], vs, fp, k, r, _, _ => by cases r; exact .nil
  | f :: fs, vs, fp, k, r, hf, ha => by
    have r' : OTRs K mg H F vs (.lst [f.1, f.2.1, .lst f.2.2] :: fcsO fs) fp := r
    clear r
    cases r' with
    | cons o r1 n =>
      have hr : ∀ i v, _ → _ := fun i v (h : _) => by
        have := ha (i + 1) v (by simpa using h)
        rw [show k + (i + 1) = k + 1 + i by omega] at this; exact this
      have rr := fcs_ali hs (k := k + 1) r1 (fun a h => hf a (List.mem_append_right _ h)) hr
      have h0 := ha 0 _ rfl
      obtain ⟨q, vn, vp, b, vb, gn, gp, gb, rfl, hq, on, op, hb, hzb, rb, s1, s2, hbg, hqg⟩ := fc_open o
      have hF := fun a h => hf a (List.mem_append_left _ h)
      have hb1 : α k = b := by rw [Nat.add_zero] at h0; rw [h0]; simp [adrE, hq]
      refine .cons (.lst ((hF q hqg).trans hq) (by show 3 ≤ sizeLine; rw [sizeLine_eq]; omega) (.cons (on.frz hs fun a h => hF a (s1 a h)) (.cons (op.frz hs fun a h => hF a (s2 a h)) (.cons ?_ .nil)))) rr
      rw [hb1, ← rb.len]
      exact .ali ((hF b hbg).trans hb) hzb
theorem fcs_adr : ∀ {fs : List FcO} {vs : List V} {fp : List Addr}, OTRs K mg H F vs (fcsO fs) fp → (vs.map (adrE H)).Nodup ∧ ∀ b ∈ vs.map (adrE H), b ∈ fp
  | [], vs, fp, r => by cases r; exact ⟨.nil, fun _ z => nomatch z⟩
  | f :: fs, vs, fp, r => by
    have r' : OTRs K mg H F vs (.lst [f.1, f.2.1, .lst f.2.2] :: fcsO fs) fp := r
    clear r
    cases r' with
    | cons o r1 n =>
      obtain ⟨i1, i2⟩ := fcs_adr r1
      obtain ⟨q, vn, vp, b, vb, gn, gp, gb, rfl, hq, on, op, hb, hzb, rb, s1, s2, hbg, hqg⟩ := fc_open o
      have e : adrE H (.ref q) = b := by simp [adrE, hq]
      rw [List.map_cons, e]
      exact ⟨List.nodup_cons.mpr ⟨fun z => n b hbg (i2 b z), i1⟩, fun a ha => (List.mem_cons.mp ha).elim (fun z => by rw [z]; exact List.mem_append_left _ hbg) fun z => List.mem_append_right _ (i2 a z)⟩
/-- a body within its functions -/
theorem body_zip {v : V} {fs : List FcO} {fp : List Addr} {i : Nat} {f : FcO} (o : OTR K mg H F v (.lst (fcsO fs)) fp) (hf : fs[i]? = some f) : ∃ aF vs w b g, v = .ref aF ∧ H aF = some (.lst vs) ∧ vs[i]? = some w ∧ adrE H w = b ∧ OTR K mg H F (.ref b) (.lst f.2.2) g ∧ (∀ a ∈ g, a ∈ fp) ∧
    ∀ (H' F' : Hp) (u : List OT) (g' : List Addr), Same F F' → (∀ a ∈ fp, a ∉ g → ∀ o, H a = some o → H' a = some o) → OTR K mg H' F' (.ref b) (.lst u) g' → (∀ a ∈ g', a ∈ g ∨ a ∉ fp) →
      ∃ fp', OTR K mg H' F' v (.lst (fcsO (fs.set i (f.1, f.2.1, u)))) fp' ∧ ∀ a ∈ fp', a ∈ g' ∨ (a ∈ fp ∧ a ∉ g) := by
  cases o with
  | lst hl hz r n =>
    rename_i aF vs fp0
    have ht : (fcsO fs)[i]? = some (.lst [f.1, f.2.1, .lst f.2.2]) := by unfold fcsO; rw [List.getElem?_map, hf]; rfl
    obtain ⟨w, g1, h1, h2, h3, h4⟩ := r.child ht
    obtain ⟨q, vn, vp, b, vb, gn, gp, gb, rfl, hq, _⟩ := fc_open h2
    have e : adrE H (.ref q) = b := by simp [adrE, hq]
    cases h2 with
    | @lst _ vs2 _ fp2 hl2 hz2 r2 n2 =>
      obtain ⟨vb2, g, c1, c2, c3, c4⟩ := r2.child (n := 2) (t := .lst f.2.2) rfl
      have hvs : vs2 = [vn, vp, .ref b] := by
        have := hl2.symm.trans hq
        simpa using this
      subst hvs
      have hb2 : V.ref b = vb2 := by simpa using c1
      subst hb2
      refine ⟨aF, vs, .ref q, b, g, rfl, hl, h1, e, c2, fun a ha => List.mem_cons_of_mem _ (h3 a (List.mem_cons_of_mem _ (c3 a ha))), fun H' F' u g' sm kp o' d => ?_⟩
      have qg : q ∉ g := fun z => n2 (c3 q z)
      have ag : aF ∉ g := fun z => n (h3 _ (List.mem_cons_of_mem _ (c3 _ z)))
      obtain ⟨k1, p1, p2⟩ := c4 H' F' (.lst u) g' sm (fun a ha hn => kp a (List.mem_cons_of_mem _ (h3 a (List.mem_cons_of_mem _ ha))) hn) o' (fun a ha => (d a ha).imp id fun z y => z (List.mem_cons_of_mem _ (h3 a (List.mem_cons_of_mem _ y))))
      have qk : q ∉ k1 := fun z => by
        rcases p2 q z with y | ⟨y, _⟩
        · rcases d q y with x | x
          · exact qg x
          · exact x (List.mem_cons_of_mem _ (h3 q List.mem_cons_self))
        · exact n2 y
      have o1 : OTR K mg H' F' (.ref q) (.lst [f.1, f.2.1, .lst u]) (q :: k1) := .lst (kp q (List.mem_cons_of_mem _ (h3 q List.mem_cons_self)) qg _ hl2) hz2 p1 qk
      obtain ⟨k2, s1, s2⟩ := h4 H' F' _ (q :: k1) sm (fun a ha hn => kp a (List.mem_cons_of_mem _ ha) fun z => hn (List.mem_cons_of_mem _ (c3 a z))) o1 (fun a ha => by
        rcases List.mem_cons.mp ha with rfl | ha
        · exact .inl List.mem_cons_self
        · rcases p2 a ha with y | ⟨y, _⟩
          · rcases d a y with z | z
            · exact .inl (List.mem_cons_of_mem _ (c3 a z))
            · exact .inr fun x => z (List.mem_cons_of_mem _ x)
          · exact .inl (List.mem_cons_of_mem _ y))
      have ak : aF ∉ k2 := fun z => by
        rcases s2 aF z with y | ⟨y, _⟩
        · rcases List.mem_cons.mp y with x | x
          · exact n (by rw [x]; exact h3 q List.mem_cons_self)
          · rcases p2 aF x with m | ⟨m, _⟩
            · rcases d aF m with l | l
              · exact ag l
              · exact l List.mem_cons_self
            · exact n (h3 _ (List.mem_cons_of_mem _ m))
        · exact n y
      refine ⟨aF :: k2, .lst (kp aF List.mem_cons_self ag _ hl) hz ?_ ak, fun a ha => ?_⟩
      · have : fcsO (fs.set i (f.1, f.2.1, u)) = (fcsO fs).set i (.lst [f.1, f.2.1, .lst u]) := by unfold fcsO; rw [List.map_set]
        rw [this]; exact s1
      · rcases List.mem_cons.mp ha with rfl | ha
        · exact .inr ⟨List.mem_cons_self, ag⟩
        · rcases s2 a ha with y | ⟨y, z⟩
          · rcases List.mem_cons.mp y with rfl | y
            · exact .inr ⟨List.mem_cons_of_mem _ (h3 _ List.mem_cons_self), qg⟩
            · rcases p2 a y with x | ⟨x, m⟩
              · exact .inl x
              · exact .inr ⟨List.mem_cons_of_mem _ (h3 a (List.mem_cons_of_mem _ x)), m⟩
          · exact .inr ⟨List.mem_cons_of_mem _ y, fun x => z (List.mem_cons_of_mem _ (c3 a x))⟩
end
end Rx
end

section
/-! Rx, part 43: the borrowing, as statements do it. -/
namespace Rx
open PySem PySem.Spec PyProof.Rows L2
variable [Prw]
section
variable {X : Cx} {W : WX} {P : Nat → Bool} {pos : Pos}
/-- statements, one by one -/
inductive JLs (X : Cx) (W : WX) (P : Nat → Bool) : List IS → List Stmt → Prop
  | nil : JLs X W P [] []
  | cons {s : IS} {st : Stmt} {ss : List IS} {sts : List Stmt} : JS X W P s st → JLs X W P ss sts → JLs X W P (s :: ss) (st :: sts)
theorem pss_app {T : TS} {rest : List Stmt} (hr : PSs X rest T) : ∀ {ss : List IS} {sts : List Stmt}, JLs X W P ss sts → PSs X (sts ++ rest) (fun D σ H => tSX X W P (run ss) { D with nx := T D } σ H)
  | _, _, .nil => PSs.imp hr fun D σ H h => by
    obtain ⟨F, en, fp, s0, h⟩ := h
    exact h σ H F fp Stp.refl s0 Pr.refl
  | _, _, .cons (s := s) (ss := ss) h1 h2 => by
    refine PSs.imp (pss_cons h1 (pss_app hr h2)) fun D σ H h => ?_
    obtain ⟨F, en, fp, s0, h⟩ := h
    refine ⟨F, en, fp, s0, ?_⟩
    have h : WS X.K X.mg W P { D with nx := T D } H F fp σ ((run1 s en).sq (run ss)) := h
    cases hm : run1 s en with
    | bad => rw [hm] at h; exact h
    | nx e1 => rw [hm] at h; exact fun σ' H' F' fp' st s1 p => goS st p s1 h
    | brk e1 => rw [hm] at h; exact h
    | ct e1 => rw [hm] at h; exact h
    | ret t e1 => rw [hm] at h; exact h
    | exn x e1 => rw [hm] at h; exact h
end
section
variable {K : PySem.W.Frag} {mg : Str → Option Value} {W : WX} {P P2 : Nat → Bool} {H F H' F' H1 F1 H0 F0 : Hp} {fp fp' fp1 fp0 : List Addr} {σ σ' σ0 : L2.St} {e e5 : Ev}
theorem lst_open {v : V} {ts : List OT} {g : List Addr} (o : OTR K mg H F v (.lst ts) g) : ∃ a vs f0, v = .ref a ∧ H a = some (.lst vs) ∧ vs.length ≤ sizeLine ∧ OTRs K mg H F vs ts f0 ∧ (∀ b ∈ f0, b ∈ g) ∧ a ∈ g := by
  cases o with
  | lst hl hz r n => exact ⟨_, _, _, rfl, hl, hz, r, fun b hb => List.mem_cons_of_mem _ hb, List.mem_cons_self⟩
theorem adr_keep {vs : List V} {fs : List FcO} {g : List Addr} (r : OTRs K mg H F vs (fcsO fs) g) (k : ∀ a ∈ g, ∀ o, H a = some o → H' a = some o) {i : Nat} {v : V} (h : vs[i]? = some v) : adrE H' v = adrE H v := by
  have hi : i < vs.length := (List.getElem?_eq_some_iff.mp h).1
  have hl := r.len
  have hi2 : i < fs.length := by rw [hl] at hi; simpa [fcsO] using hi
  have ht : (fcsO fs)[i]? = some (.lst [fs[i].1, fs[i].2.1, .lst fs[i].2.2]) := by unfold fcsO; rw [List.getElem?_map, List.getElem?_eq_getElem hi2]; rfl
  obtain ⟨w, g1, h1, h2, h3, _⟩ := r.child ht
  obtain rfl : w = v := Option.some.inj (h1.symm.trans h)
  obtain ⟨q, vn, vp, b, vb, gn, gp, gb, rfl, hq, on, op, hb, hzb, rb, s1, s2, hbg, hqg⟩ := fc_open h2
  simp [adrE, hq, k q (h3 q hqg) _ hq]
variable (K mg) in
/-- two names that are not handed on: functions, rows; where their blocks stand -/
structure Hd (H F : Hp) (σ : L2.St) (jF jR : Nat) (α : Nat → Nat) (fs : List FcO) (rows : List OT) (vF : V) (aF : Addr) (vsF : List V) (gF gR : List Addr) : Prop where
  sF : σ[jF]? = some (some vF)
  sR : σ[jR]? = some (some (.ref (α 0)))
  oF : OTR K mg H F vF (.lst (fcsO fs)) gF
  oR : OTR K mg H F (.ref (α 0)) (.lst rows) gR
  hv : vF = .ref aF
  hl : H aF = some (.lst vsF)
  ad : ∀ i v, vsF[i]? = some v → α (i + 1) = adrE H v
  dis : ∀ a ∈ gF, a ∉ gR
  wF : ∀ a ∈ gF, F a = none
  wR : ∀ a ∈ gR, F a = none
section
variable {jF jR jb : Nat} {α : Nat → Nat} {fs : List FcO} {rows u u' : List OT} {vF : V} {aF : Addr} {vsF : List V} {gF gR : List Addr}
theorem Hd.keep (h : Hd K mg H F σ jF jR α fs rows vF aF vsF gF gR) (fz : Same F F') (kF : ∀ a ∈ gF, ∀ o, H a = some o → H' a = some o) (kR : ∀ a ∈ gR, ∀ o, H a = some o → H' a = some o) (wF : ∀ a ∈ gF, F' a = none) (wR : ∀ a ∈ gR, F' a = none)
    (p1 : σ'[jF]? = σ[jF]?) (p2 : σ'[jR]? = σ[jR]?) : Hd K mg H' F' σ' jF jR α fs rows vF aF vsF gF gR := by
  obtain ⟨a, vs, f0, e1, e2, e3, e4, e5, e6⟩ := lst_open h.oF
  obtain rfl : aF = a := by have := h.hv.symm.trans e1; cases this; rfl
  obtain rfl : vsF = vs := by have := h.hl.symm.trans e2; cases this; rfl
  exact ⟨p1.trans h.sF, p2.trans h.sR, h.oF.keep fz kF, h.oR.keep fz kR, h.hv, kF aF e6 _ h.hl, fun i v hi => (h.ad i v hi).trans (adr_keep e4 (fun a ha => kF a (e5 a ha)) hi).symm, h.dis, wF, wR⟩
theorem Hd.step (h : Hd K mg H F σ jF jR α fs rows vF aF vsF gF gR) (st : Stp H F fp H' F' fp') (dF : ∀ a ∈ gF, a ∉ fp) (dR : ∀ a ∈ gR, a ∉ fp) (p1 : σ'[jF]? = σ[jF]?) (p2 : σ'[jR]? = σ[jR]?) :
    Hd K mg H' F' σ' jF jR α fs rows vF aF vsF gF gR ∧ (∀ a ∈ gF, a ∉ fp') ∧ (∀ a ∈ gR, a ∉ fp') := by
  obtain ⟨a1, a2, a3⟩ := st.held h.oF.there dF h.wF
  obtain ⟨b1, b2, b3⟩ := st.held h.oR.there dR h.wR
  exact ⟨h.keep st.fz a1 b1 a2 b2 p1 p2, a3, b3⟩
theorem at_set_ne {e : Ev} {i j : Nat} {s : Slot} (h : i ≠ j) : Ev.at (e.set i s) j = e.at j := by
  unfold Ev.at
  rw [List.getD_eq_getElem?_getD, List.getD_eq_getElem?_getD, List.getElem?_set_ne h]
theorem phA (s : SS K mg H F σ e fp) (hF : e.at jF = some (.lst (fcsO fs))) (hR : e.at jR = some (.lst rows)) (hne : jF ≠ jR) : ∃ α F1 vF aF vsF gF gR rest, InjTo fs.length α ∧ SS K mg H F1 σ (envA jF jR α fs rows e) [] ∧ Hd K mg H F σ jF jR α fs rows vF aF vsF gF gR ∧
    EvR K mg H F σ ((e.set jF none).set jR none) rest ∧ (∀ a ∈ gF, a ∉ rest) ∧ (∀ a ∈ gR, a ∉ rest) ∧ ∀ a, a ∈ gF ∨ a ∈ gR ∨ a ∈ rest → a ∈ fp := by
  obtain ⟨vF, gF, rest1, k1, k2, k3, k4, k5⟩ := s.env.take hF
  obtain ⟨vR, gR, rest, l1, l2, l3, l4, l5⟩ := k3.take (j := jR) ((at_set_ne hne).trans hR)
  obtain ⟨a0, vsR, f1, rfl, r1, r2, r3, r4, r5⟩ := lst_open l2
  obtain ⟨aF, vsF, f0, e1, e2, e3, e4, e5, e6⟩ := lst_open k2
  have dis : ∀ a ∈ gF, a ∉ gR := fun a ha z => k5 a ha ((l4 a).mpr (.inl z))
  have wF : ∀ a ∈ gF, F a = none := fun a ha => s.own a ((k4 a).mpr (.inl ha))
  have wR : ∀ a ∈ gR, F a = none := fun a ha => s.own a ((k4 a).mpr (.inr ((l4 a).mpr (.inl ha))))
  obtain ⟨nd, nin⟩ := fcs_adr e4
  have hlen : vsF.length = fs.length := by rw [e4.len]; simp [fcsO]
  have ndl : (a0 :: vsF.map (adrE H)).Nodup := List.nodup_cons.mpr ⟨fun z => dis a0 (e5 _ (nin _ z)) r5, nd⟩
  obtain ⟨α, hα⟩ : ∃ α : Nat → Nat, ∀ k : Nat, α k = ((a0 :: vsF.map (adrE H))[k]?).getD 0 := ⟨_, fun _ => rfl⟩
  have h0 : α 0 = a0 := by rw [hα]; rfl
  have had : ∀ i v, vsF[i]? = some v → α (i + 1) = adrE H v := fun i v h => by rw [hα, List.getElem?_cons_succ, List.getElem?_map, h]; rfl
  have hs : Same F (frzF F H (gF ++ gR)) := same_frzF fun a ha => (List.mem_append.mp ha).elim (wF a) (wR a)
  have hFF : ∀ a ∈ gF, frzF F H (gF ++ gR) a = H a := fun a ha => frzF_in (List.mem_append_left _ ha)
  have hFR : ∀ a ∈ gR, frzF F H (gF ++ gR) a = H a := fun a ha => frzF_in (List.mem_append_right _ ha)
  have dF : DR K mg (frzF F H (gF ++ gR)) vF (.lst (aliG α 1 fs)) := by
    rw [e1]
    exact .lst ((hFF aF e6).trans e2) e3 (fcs_ali hs e4 (fun a ha => hFF a (e5 a ha)) fun i v h => by rw [Nat.add_comm]; exact had i v h)
  have dR : DR K mg (frzF F H (gF ++ gR)) (.ref a0) (.ali (α 0) rows.length) := by
    rw [h0, ← r3.len]
    exact .ali ((hFR a0 r5).trans r1) r2
  obtain ⟨q1, x1, y1⟩ := EvR.put (g := []) (s.env.kfz.keep hs nm) k1 (.fz dF) nm
  obtain ⟨q2, x2, y2⟩ := EvR.put (g := []) x1 l1 (.fz dR) nm
  have en : q2 = [] := List.eq_nil_iff_forall_not_mem.mpr fun a ha => by
    rcases y2 a ha with z | z
    · cases z
    · rcases y1 a z with z | z <;> cases z
  subst en
  refine ⟨α, _, vF, aF, vsF, gF, gR, rest, fun i j hi hj q => ?_, ⟨frzF_same s.le, x2, nm⟩, ⟨k1, by rw [h0]; exact l1, k2, by rw [h0]; exact l2, e1, e2, had, dis, wF, wR⟩, l3, fun a ha z => k5 a ha ((l4 a).mpr (.inr z)), l5, fun a ha => ?_⟩
  · have li : i < (a0 :: vsF.map (adrE H)).length := by simp [hlen]; omega
    have lj : j < (a0 :: vsF.map (adrE H)).length := by simp [hlen]; omega
    rw [hα, hα, List.getElem?_eq_getElem li, List.getElem?_eq_getElem lj] at q
    exact (List.getElem_inj ndl).mp q
  · rcases ha with h | h | h
    · exact (k4 a).mpr (.inl h)
    · exact (k4 a).mpr (.inr ((l4 a).mpr (.inl h)))
    · exact (k4 a).mpr (.inr ((l4 a).mpr (.inr h)))
theorem bor_core {v1 v2 : V} {b : Addr} {g g1 g2 : List Addr} {t2 : OT} {mk : List OT → OT} {j1 j2 : Nat} {S2 : List IS} {D : Ends} {nx' : L2.St → Hp → Prop} (s : SS K mg H F σ e fp) (ob : OTR K mg H F (.ref b) (.lst u) g) (hg : ∀ a ∈ g, a ∈ g1)
    (zip : ∀ (H' F' : Hp) (u' : List OT) (g' : List Addr), Same F F' → (∀ a ∈ g1, a ∉ g → ∀ o, H a = some o → H' a = some o) → OTR K mg H' F' (.ref b) (.lst u') g' → (∀ a ∈ g', a ∈ g ∨ a ∉ g1) → ∃ fp', OTR K mg H' F' v1 (mk u') fp' ∧ ∀ a ∈ fp', a ∈ g' ∨ (a ∈ g1 ∧ a ∉ g))
    (th1 : ∀ a ∈ g1, ∃ o, H a = some o) (o2 : OTR K mg H F v2 t2 g2) (d12 : ∀ a ∈ g1, a ∉ g2) (d1 : ∀ a ∈ g1, a ∉ fp) (d2 : ∀ a ∈ g2, a ∉ fp) (w1 : ∀ a ∈ g1, F a = none) (w2 : ∀ a ∈ g2, F a = none)
    (s1 : σ[j1]? = some (some v1)) (s2 : σ[j2]? = some (some v2)) (sb : σ[jb]? = some (some (.ref b))) (p1 : P2 j1 = true) (p2 : P2 j2 = true) (pb : P2 jb = true) (pP : ∀ j, P j = true → P2 j = true)
    (st0 : Stp H0 F0 fp0 H F (g1 ++ (g2 ++ fp))) (p0 : Pr P σ0 σ) (hr : run S2 (e.set jb (some (.lst u))) = .nx e5) (h5 : e5.at jb = some (.lst u'))
    (cont : ∀ σ' H' F' fp', Stp H0 F0 fp0 H' F' fp' → SS K mg H' F' σ' (((e5.set jb none).set j1 (some (mk u'))).set j2 (some t2)) fp' → Pr P σ0 σ' → nx' σ' H') : tS K mg W P2 (run S2) { D with nx := nx' } σ H := by
  obtain ⟨fpb, env1, sub1⟩ := s.env.put sb ob (fun a ha => d1 a (hg a ha))
  refine ⟨F, _, fpb, ⟨s.le, env1, fun a ha => (sub1 a ha).elim (fun z => w1 a (hg a z)) (s.own a)⟩, ?_⟩
  rw [hr]
  intro σ' H' F' fp' st ss pr
  have gpm : ∀ a, a ∈ g1.filter (fun a => decide (a ∉ g)) ++ g2 ↔ (a ∈ g1 ∧ a ∉ g) ∨ a ∈ g2 := fun a => by simp
  obtain ⟨kA, kB, kC⟩ := st.held (gp := g1.filter (fun a => decide (a ∉ g)) ++ g2) (fun a ha => ((gpm a).mp ha).elim (fun z => th1 a z.1) (o2.there a)) (fun a ha z => by
    rcases (gpm a).mp ha with y | y
    · exact (sub1 a z).elim y.2 (d1 a y.1)
    · exact (sub1 a z).elim (fun x => d12 a (hg a x) y) (d2 a y)) (fun a ha => ((gpm a).mp ha).elim (fun z => w1 a z.1) (w2 a))
  have kA1 : ∀ a ∈ g1, a ∉ g → ∀ o, H a = some o → H' a = some o := fun a h1 h2 => kA a ((gpm a).mpr (.inl ⟨h1, h2⟩))
  have kC1 : ∀ a ∈ g1, a ∉ g → a ∉ fp' := fun a h1 h2 => kC a ((gpm a).mpr (.inl ⟨h1, h2⟩))
  have kC2 : ∀ a ∈ g2, a ∉ fp' := fun a h1 => kC a ((gpm a).mpr (.inr h1))
  obtain ⟨v, g', rest, q1, q2, q3, q4, q5⟩ := ss.env.take h5
  have ev : v = .ref b := by
    have := q1.symm.trans ((pr jb pb).trans sb)
    simpa using this
  subst ev
  have g'f : ∀ a ∈ g', a ∈ fp' := fun a ha => (q4 a).mpr (.inl ha)
  have rf : ∀ a ∈ rest, a ∈ fp' := fun a ha => (q4 a).mpr (.inr ha)
  obtain ⟨f1, z1, z2⟩ := zip H' F' u' g' st.fz kA1 q2 fun a ha => by
    by_cases h : a ∈ g
    · exact .inl h
    · exact .inr fun z => kC1 a z h (g'f a ha)
  obtain ⟨r1, x1, y1⟩ := q3.put ((pr j1 p1).trans s1) z1 fun a ha z => by
    rcases z2 a ha with y | y
    · exact q5 a y z
    · exact kC1 a y.1 y.2 (rf a z)
  obtain ⟨r2, x2, y2⟩ := x1.put ((pr j2 p2).trans s2) (o2.keep st.fz fun a ha => kA a ((gpm a).mpr (.inr ha))) fun a ha z => by
    rcases y1 a z with y | y
    · rcases z2 a y with x | x
      · exact kC2 a ha (g'f a x)
      · exact d12 a x.1 ha
    · exact kC2 a ha (rf a y)
  have cls : ∀ a ∈ r2, a ∈ (g1.filter (fun a => decide (a ∉ g)) ++ g2) ++ fp' := fun a ha => by
    rcases y2 a ha with y | y
    · exact List.mem_append_left _ ((gpm a).mpr (.inr y))
    · rcases y1 a y with y | y
      · rcases z2 a y with x | x
        · exact List.mem_append_right _ (g'f a x)
        · exact List.mem_append_left _ ((gpm a).mpr (.inl x))
      · exact List.mem_append_right _ (rf a y)
  refine cont σ' H' F' r2 (((st0.sub fun a ha => ?_).trans (st.frameL (gp := g1.filter (fun a => decide (a ∉ g)) ++ g2))).sub cls) ⟨ss.le, x2, fun a ha => (List.mem_append.mp (cls a ha)).elim (kB a) (ss.own a)⟩ (p0.trans fun j hj => pr j (pP j hj))
  rcases List.mem_append.mp ha with y | y
  · rcases (gpm a).mp y with x | x
    · exact List.mem_append_left _ x.1
    · exact List.mem_append_right _ (List.mem_append_left _ x)
  · rcases sub1 a y with x | x
    · exact List.mem_append_left _ (hg a x)
    · exact List.mem_append_right _ (List.mem_append_right _ x)
theorem phB {L : List Nat} {k : Nat} {S2 : List IS} {D : Ends} {nx' : L2.St → Hp → Prop} (hd : Hd K mg H F σ jF jR α fs rows vF aF vsF gF gR) (s : SS K mg H F σ e fp) (dF : ∀ a ∈ gF, a ∉ fp) (dR : ∀ a ∈ gR, a ∉ fp) (sb : σ[jb]? = some (some (.ref (α k)))) (hk : blkAt fs rows k = some u)
    (p1 : P2 jF = true) (p2 : P2 jR = true) (pb : P2 jb = true) (pP : ∀ j, P j = true → P2 j = true) (st0 : Stp H0 F0 fp0 H F (gF ++ (gR ++ fp))) (p0 : Pr P σ0 σ) (hr : run S2 (e.set jb (some (.lst u))) = .nx e5) (h5 : e5.at jb = some (.lst u'))
    (cont : ∀ σ' H' F' fp', Stp H0 F0 fp0 H' F' fp' → SS K mg H' F' σ' (wipeE (putBk jF jR fs rows u' (e5.set jb none) k) L) fp' → Pr P σ0 σ' → nx' σ' H') : tS K mg W P2 (run S2) { D with nx := nx' } σ H := by
  have fin : ∀ {ex : Ev}, (∀ σ' H' F' fp', Stp H0 F0 fp0 H' F' fp' → SS K mg H' F' σ' (wipeE ex L) fp' → Pr P σ0 σ' → nx' σ' H') → ∀ σ' H' F' fp', Stp H0 F0 fp0 H' F' fp' → SS K mg H' F' σ' ex fp' → Pr P σ0 σ' → nx' σ' H' := fun {ex} c σ' H' F' fp' st ss pr => by
    obtain ⟨fp2, w1, w2⟩ := ss.env.forgets L
    exact c σ' H' F' fp2 (st.sub w2) ⟨ss.le, w1, fun a ha => ss.own a (w2 a ha)⟩ pr
  cases k with
  | zero =>
    have hk : some rows = some u := hk
    cases hk
    refine bor_core (mk := fun u' => .lst u') s hd.oR (fun _ h => h) (fun H' F' u' g' _ _ o _ => ⟨g', o, fun a ha => .inl ha⟩) hd.oR.there hd.oF (fun a ha z => hd.dis a z ha) dR dF hd.wR hd.wF hd.sR hd.sF sb p2 p1 pb pP (st0.sub fun a ha => ?_) p0 hr h5 (fin cont)
    simp only [List.mem_append] at ha ⊢
    rcases ha with h | h | h <;> simp [h]
  | succ i =>
    have hk : (fs[i]?).map (·.2.2) = some u := hk
    cases hf : fs[i]? with
    | none => rw [hf] at hk; cases hk
    | some f =>
      rw [hf] at hk
      cases hk
      obtain ⟨a, vs, w, b, g, e1, e2, e3, e4, e5', e6, e7⟩ := body_zip hd.oF hf
      obtain rfl : aF = a := by have := hd.hv.symm.trans e1; cases this; rfl
      obtain rfl : vsF = vs := by have := hd.hl.symm.trans e2; cases this; rfl
      have hb : α (i + 1) = b := (hd.ad i w e3).trans e4
      rw [hb] at sb
      refine bor_core (mk := fun u' => .lst (fcsO (fs.set i (f.1, f.2.1, u')))) s e5' e6 e7 hd.oF.there hd.oR hd.dis dF dR hd.wF hd.wR hd.sF hd.sR sb p1 p2 pb pP st0 p0 hr h5 (fin ?_)
      have : putBk jF jR fs rows u' (e5.set jb none) (i + 1) = ((e5.set jb none).set jF (some (.lst (fcsO (fs.set i (f.1, f.2.1, u')))))).set jR (some (.lst rows)) := by simp only [putBk, hf]
      rw [← this]; exact cont
end
end
end Rx
end

section
/-! Rx, part 44: the two ways of borrowing. -/
namespace Rx
open PySem PySem.Spec PyProof.Rows L2
variable [Prw]
abbrev PrA (js : List Nat) : Nat → Bool := fun j => !js.contains j
abbrev PrB (P : Nat → Bool) (js : List Nat) : Nat → Bool := fun j => P j || js.contains j
def brOk (P : Nat → Bool) (jF jR : Nat) (js : List Nat) : Bool := jF != jR && !js.contains jF && !js.contains jR && js.all fun j => !P j
theorem brOk_of {P : Nat → Bool} {jF jR : Nat} {js : List Nat} (h : brOk P jF jR js = true) : jF ≠ jR ∧ jF ∉ js ∧ jR ∉ js ∧ ∀ j ∈ js, P j = false := by
  unfold brOk at h
  simp only [Bool.and_eq_true, bne_iff_ne, ne_eq, Bool.not_eq_true', List.contains_eq_mem, decide_eq_false_iff_not, List.all_eq_true] at h
  exact ⟨h.1.1.1, h.1.1.2, h.1.2, h.2⟩
section
variable {K : PySem.W.Frag} {mg : Str → Option Value} {H F H' F' H1 F1 : Hp} {fp fp' fp1 rest : List Addr} {σ σ1 : L2.St} {e eA : Ev}
theorem findB_some {α : Nat → Nat} {n a k : Nat} (h : findB α n a = some k) : α k = a := by
  have := List.find?_some h
  simpa using this
/-- behind what was done with the blocks' places alone -/
theorem phA2 {jF jR : Nat} {js : List Nat} (hF : Same F H) (st : Stp H F1 [] H1 F' fp') (pr : Pr (PrA js) σ σ1) (hl : σ1.length = σ.length) (env : EvR K mg H F σ e rest) : ∃ r3, EvR K mg H1 F σ1 (wipeE e js) r3 ∧ (∀ a ∈ r3, a ∈ rest) ∧ Same F H1 := by
  have ke : ∀ a o, H a = some o → H1 a = some o := fun a o h => st.ke a o h fun z => nomatch z
  obtain ⟨r3, w1, w2⟩ := env.forgets js
  refine ⟨r3, (w1.keep (Same.refl _) fun a _ o h => ke a o h).swap hl fun j hj => pr j ?_, w2, fun a o h => ke a o (hF a o h)⟩
  by_cases q : j ∈ js
  · exact absurd (wipeE_at q) hj
  · simpa using q
theorem adrs_ok : ∀ {vs : List V} {ts : List OT} {fp : List Addr} {ads : List D}, OTRs K mg H F vs ts fp → adrs ts = some ads → DRs K mg F' vs ads
  | _, _, _, _, .nil, h => by cases h; exact .nil
  | _, _, _, ads, .cons (t := t) o r n, h => by
    cases o with
    | fz d =>
      cases d with
      | ali h1 h2 =>
        have h : (adrs _).map (D.adr _ :: ·) = some ads := h
        obtain ⟨ads', h3, rfl⟩ := Option.map_eq_some_iff.mp h
        exact .cons .adr (adrs_ok r h3)
      | non => cases h
      | bl => cases h
      | int => cases h
      | str => cases h
      | tup => cases h
      | lst => cases h
      | lk => cases h
      | dK => cases h
      | dN => cases h
      | ins => cases h
      | fn => cases h
      | adr => cases h
      | tpn => cases h
    | lst => cases h
    | dK => cases h
    | dN => cases h
    | ins => cases h
end
section
variable {X : Cx} {W : WX} {P : Nat → Bool} {pos : Pos} {k : Nat} {jF jR jB jb : Nat} {L : List Nat} {s1 s2 ss : List IS} {S1 S2 rest : List Stmt}
/-- a name is set to one of the blocks (S1); the block is changed (S2) -/
theorem ss_brwR (h1 : JLs X W (PrA (jb :: L)) s1 S1) (h2 : JLs X W (PrB P [jF, jR, jb]) s2 S2) (hr : JSs X W P ss rest) (hok : brOk P jF jR (jb :: L) = true := by rfl) : JSs X W P (.hk (hkB jF jR (coreR jF jR jb L s1 s2)) :: ss) (S1 ++ (S2 ++ rest)) := by
  obtain ⟨hne, nF, nR, hP⟩ := brOk_of hok
  refine PSs.imp (pss_app (pss_app hr h2) h1) fun D σ H h => ?_
  obtain ⟨F, e, fp, s0, h⟩ := h
  have h : WS X.K X.mg W P D H F fp σ ((match hkB jF jR (coreR jF jR jb L s1 s2) e with
    | none => SR.bad
    | some (none, e') => .nx e'
    | some (some t, e') => .ret t e').sq (run ss)) := h
  unfold hkB at h
  cases hb : brwS jF jR (coreR jF jR jb L s1 s2) e with
  | none => rw [hb] at h; exact h.elim
  | some e' =>
    rw [hb] at h
    have h : WS X.K X.mg W P D H F fp σ (run ss e') := h
    obtain ⟨fs, rows, hF, hR, hcore⟩ := brwS_some hb
    obtain ⟨α, F1, vF, aF, vsF, gF, gR, rst, inj, sA, hd, env, dF, dR, sub⟩ := phA s0 hF hR hne
    have hcore := hcore α inj
    unfold coreR at hcore
    refine ⟨F1, _, [], sA, ?_⟩
    cases hr1 : run s1 (envA jF jR α fs rows e) <;> rw [hr1] at hcore <;> first | (cases hcore; done) | skip
    rename_i eA
    simp only at hcore
    by_cases hlen : eA.length = e.length
    · rw [if_pos hlen] at hcore
      intro σ1 H1 F1' fp1 st1 ss1 pr1
      split at hcore
      · rename_i a n hat
        obtain ⟨v, g, hv, ov, _⟩ := ss1.env.at hat
        have hl1 : σ1.length = σ.length := by rw [ss1.env.length, hlen, s0.env.length]
        obtain ⟨r3, env3, sub3, le3⟩ := phA2 (jF := jF) (jR := jR) s0.le st1 pr1 hl1 env
        have ke : ∀ a o, H a = some o → H1 a = some o := fun a o h => st1.ke a o h fun z => nomatch z
        have hd1 : Hd X.K X.mg H1 F σ1 jF jR α fs rows vF aF vsF gF gR := hd.keep (Same.refl _) (fun a _ => ke a) (fun a _ => ke a) hd.wF hd.wR (pr1 jF (by simpa using nF)) (pr1 jR (by simpa using nR))
        have st0 : Stp H F fp H1 F (gF ++ (gR ++ r3)) := ⟨fun _ _ h => h, fun a o h _ => ke a o h, fun a o h => .inl (by rw [h]; simp), fun a ha => .inl (sub a (by
          rcases List.mem_append.mp ha with z | z
          · exact .inl z
          · rcases List.mem_append.mp z with z | z
            · exact .inr (.inl z)
            · exact .inr (.inr (sub3 a z))))⟩
        have p0 : Pr P σ σ1 := fun j hj => pr1 j (by
          have : j ∉ jb :: L := fun z => by rw [hP j z] at hj; cases hj
          simpa using this)
        have sb : σ1[jb]? = some (some (.ref a)) := by
          cases ov with
          | fz d => cases d; exact hv
        unfold borG at hcore
        split at hcore
        · rename_i k hk
          split at hcore
          · rename_i u hu
            split at hcore
            · rename_i e5 hr5
              split at hcore
              · rename_i u' hu'
                cases hcore
                rw [← findB_some hk] at sb
                exact phB (L := L) hd1 ⟨le3, env3, fun a ha => s0.own a (sub a (.inr (.inr (sub3 a ha))))⟩ (fun a ha z => dF a ha (sub3 a z)) (fun a ha z => dR a ha (sub3 a z)) sb hu (by simp) (by simp) (by simp) (fun j hj => by simp [hj]) st0 p0 hr5 hu' fun σ' H' F' fp' st ss pr => goS st pr ss h
              · cases hcore
            · cases hcore
          · cases hcore
        · cases hcore
      · cases hcore
    · rw [if_neg hlen] at hcore; cases hcore
/-- a list of the blocks is made; if the test holds, a name is set to one of them and the block is changed -/
theorem ss_brwN {c : Expr} {xc : IE} {s3 : IS} {st3 : Stmt} (h1 : JLs X W (PrA [jb, jB]) s1 S1) (hc : PT X c (tDbX X W (sem xc).2)) (h3 : JS X W (PrB P [jF, jR]) s3 st3) (h2 : JLs X W (PrB P [jF, jR, jb]) s2 S2) (hr : JSs X W P ss rest) (hok : brOk P jF jR [jb, jB] = true := by rfl) :
    JSs X W P (.hk (hkB jF jR (coreN jF jR jB jb s1 xc s3 s2)) :: ss) (S1 ++ (.If c (st3 :: (S2 ++ [])) [] pos :: rest)) := by
  obtain ⟨hne, nF, nR, hP⟩ := brOk_of hok
  refine PSs.imp (pss_app (pss_cons (ps_if hc (pss_cons h3 (pss_app pss_nil h2)) pss_nil) hr) h1) fun D σ H h => ?_
  obtain ⟨F, e, fp, s0, h⟩ := h
  have h : WS X.K X.mg W P D H F fp σ ((match hkB jF jR (coreN jF jR jB jb s1 xc s3 s2) e with
    | none => SR.bad
    | some (none, e') => .nx e'
    | some (some t, e') => .ret t e').sq (run ss)) := h
  unfold hkB at h
  cases hb : brwS jF jR (coreN jF jR jB jb s1 xc s3 s2) e with
  | none => rw [hb] at h; exact h.elim
  | some e' =>
    rw [hb] at h
    have h : WS X.K X.mg W P D H F fp σ (run ss e') := h
    obtain ⟨fs, rows, hF, hR, hcore⟩ := brwS_some hb
    obtain ⟨α, F1, vF, aF, vsF, gF, gR, rst, inj, sA, hd, env, dF, dR, sub⟩ := phA s0 hF hR hne
    have hcore := hcore α inj
    unfold coreN at hcore
    refine ⟨F1, _, [], sA, ?_⟩
    cases hr1 : run s1 (envA jF jR α fs rows e) <;> rw [hr1] at hcore <;> first | (cases hcore; done) | skip
    rename_i eA
    simp only at hcore
    by_cases hlen : eA.length = e.length
    · rw [if_pos hlen] at hcore
      intro σ1 H1 F1' fp1 st1 ss1 pr1
      split at hcore
      · rename_i ts hat
        split at hcore
        · rename_i ads hads
          obtain ⟨v, g, hv, ov, gsub⟩ := ss1.env.at hat
          obtain ⟨bl, vs, f0, rfl, hbl, hzl, rts, _, blg⟩ := lst_open ov
          have hnone : H bl = none := (st1.fp bl (gsub bl blg)).elim (fun z => nomatch z) id
          have hFnone : F bl = none := Same.free s0.le hnone
          have hl1 : σ1.length = σ.length := by rw [ss1.env.length, hlen, s0.env.length]
          obtain ⟨r3, env3, sub3, le3⟩ := phA2 (jF := jF) (jR := jR) s0.le st1 pr1 hl1 env
          have ke : ∀ a o, H a = some o → H1 a = some o := fun a o h => st1.ke a o h fun z => nomatch z
          have fz2 : Same F (upd F bl (.lst vs)) := fun a o q => by rw [upd_ne (ne_of_none q hFnone)]; exact q
          have off : ∀ (S : List Addr), (∀ a ∈ S, ∃ o, H a = some o) → (∀ a ∈ S, F a = none) → ∀ a ∈ S, upd F bl (.lst vs) a = none := fun S h1 h2 a ha => by
            obtain ⟨o, ho⟩ := h1 a ha
            rw [upd_ne (ne_of_none ho hnone)]; exact h2 a ha
          have hd1 : Hd X.K X.mg H1 (upd F bl (.lst vs)) σ1 jF jR α fs rows vF aF vsF gF gR := hd.keep fz2 (fun a _ => ke a) (fun a _ => ke a) (off gF hd.oF.there hd.wF) (off gR hd.oR.there hd.wR) (pr1 jF (by simpa using nF)) (pr1 jR (by simpa using nR))
          obtain ⟨r4, env4, sub4⟩ := EvR.put (g := []) (env3.keep fz2 fun _ _ _ h => h) hv (.fz (.lst (F := upd F bl (.lst vs)) upd_same hzl (adrs_ok rts hads))) nm
          have sub4' : ∀ a ∈ r4, a ∈ rst := fun a ha => (sub4 a ha).elim (fun z => nomatch z) (sub3 a)
          have ss4 : SS X.K X.mg H1 (upd F bl (.lst vs)) σ1 ((wipeE ((e.set jF none).set jR none) [jb, jB]).set jB (some (.fz (.lst ads)))) r4 := ⟨fun a o q => by
            by_cases z : a = bl
            · subst z; rw [upd_same] at q; rw [← q]; exact hbl
            · rw [upd_ne z] at q; exact le3 a o q, env4, off r4 (fun a ha => env.there a (sub4' a ha)) fun a ha => s0.own a (sub a (.inr (.inr (sub4' a ha))))⟩
          have st0 : Stp H F fp H1 (upd F bl (.lst vs)) (gF ++ (gR ++ r4)) := ⟨fz2, fun a o h _ => ke a o h, fun a o q => by
            by_cases z : a = bl
            · subst z; exact .inr (.inl hnone)
            · rw [upd_ne z] at q; exact .inl (by rw [q]; simp), fun a ha => .inl (sub a (by
            rcases List.mem_append.mp ha with z | z
            · exact .inl z
            · rcases List.mem_append.mp z with z | z
              · exact .inr (.inl z)
              · exact .inr (.inr (sub4' a z))))⟩
          have p0 : Pr P σ σ1 := fun j hj => pr1 j (by
            have : j ∉ [jb, jB] := fun z => by rw [hP j z] at hj; cases hj
            simpa using this)
          have dF4 : ∀ a ∈ gF, a ∉ r4 := fun a ha z => dF a ha (sub4' a z)
          have dR4 : ∀ a ∈ gR, a ∉ r4 := fun a ha z => dR a ha (sub4' a z)
          refine ⟨_, _, r4, ss4, ?_⟩
          cases hcc : (sem xc).2 ((wipeE ((e.set jF none).set jR none) [jb, jB]).set jB (some (.fz (.lst ads)))) with
          | bad => rw [hcc] at hcore; cases hcore
          | exn x e3 => rw [hcc] at hcore; cases hcore
          | ok kk e3 =>
            rw [hcc] at hcore
            intro H3 F3 fp3 st3 ss3
            obtain ⟨hd3, dF3, dR3⟩ := hd1.step st3 dF4 dR4 rfl rfl
            have st03 : Stp H F fp H3 F3 (gF ++ (gR ++ fp3)) := by
              have q := st0.trans (by simpa using st3.frameL (gp := gF ++ gR) : Stp H1 (upd F bl (.lst vs)) (gF ++ (gR ++ r4)) H3 F3 (gF ++ (gR ++ fp3)))
              exact q
            cases kk with
            | false =>
              simp only [Option.some.injEq] at hcore
              refine iteF ?_
              obtain ⟨x1, y1, z1⟩ := ss3.env.put hd3.sF hd3.oF dF3
              obtain ⟨x2, y2, z2⟩ := y1.put hd3.sR hd3.oR fun a ha z => (z1 a z).elim (fun w => hd3.dis a w ha) (dR3 a ha)
              obtain ⟨x3, y3, z3⟩ := y2.forgets [jb, jB]
              rw [hcore] at y3
              have cls : ∀ a ∈ x3, a ∈ gF ++ (gR ++ fp3) := fun a ha => by
                simp only [List.mem_append]
                rcases z2 a (z3 a ha) with w | w
                · exact .inr (.inl w)
                · exact (z1 a w).imp id .inr
              refine goS (st03.sub cls) p0 ⟨ss3.le, y3, fun a ha => ?_⟩ h
              rcases List.mem_append.mp (cls a ha) with w | w
              · exact hd3.wF a w
              · exact (List.mem_append.mp w).elim (hd3.wR a) (ss3.own a)
            | true =>
              refine iteT ⟨F3, e3, fp3, ss3, ?_⟩
              simp only at hcore
              cases hr3 : run1 s3 e3 <;> rw [hr3] at hcore <;> first | (cases hcore; done) | skip
              rename_i e4
              intro σ4 H4 F4 fp4 st4 ss4' pr4
              obtain ⟨hd4, dF4', dR4'⟩ := hd3.step st4 dF3 dR3 (pr4 jF (by simp)) (pr4 jR (by simp))
              have st04 : Stp H F fp H4 F4 (gF ++ (gR ++ fp4)) := by
                have q := st03.trans (by simpa using st4.frameL (gp := gF ++ gR) : Stp H3 F3 (gF ++ (gR ++ fp3)) H4 F4 (gF ++ (gR ++ fp4)))
                exact q
              simp only at hcore
              split at hcore
              · rename_i a hat4
                obtain ⟨v4, g4, hv4, ov4, _⟩ := ss4'.env.at hat4
                have sb : σ4[jb]? = some (some (.ref a)) := by
                  cases ov4 with
                  | fz d => cases d; exact hv4
                unfold borG at hcore
                split at hcore
                · rename_i k hk
                  split at hcore
                  · rename_i u hu
                    split at hcore
                    · rename_i e5 hr5
                      split at hcore
                      · rename_i u' hu'
                        cases hcore
                        rw [← findB_some hk] at sb
                        exact phB (L := [jB]) hd4 ss4' dF4' dR4' sb hu (by simp) (by simp) (by simp) (fun j hj => by simp [hj]) st04 (p0.trans fun j hj => pr4 j (by simp [hj])) hr5 hu' fun σ' H' F' fp' st ss pr => goS st pr ss h
                      · cases hcore
                    · cases hcore
                  · cases hcore
                · cases hcore
              · cases hcore
        · cases hcore
      · cases hcore
    · rw [if_neg hlen] at hcore; cases hcore
end
section
variable {X : Cx} {W : WX} {P : Nat → Bool} {pos : Pos} {jF jR jB jb : Nat} {L : List Nat} {a1 a2 b1 b2 a3 : IS} {ss : List IS} {A1 A2 B1 B2 A3 : Stmt} {rest : List Stmt}
theorem s_brwR (h1 : JS X W (PrA (jb :: L)) a1 A1) (h2 : JS X W (PrA (jb :: L)) a2 A2) (h3 : JS X W (PrB P [jF, jR, jb]) b1 B1) (h4 : JS X W (PrB P [jF, jR, jb]) b2 B2) (hr : JSs X W P ss rest) (hok : brOk P jF jR (jb :: L) = true := by rfl) :
    JSs X W P (.hk (hkB jF jR (coreR jF jR jb L [a1, a2] [b1, b2])) :: ss) (A1 :: A2 :: B1 :: B2 :: rest) := ss_brwR (S1 := [A1, A2]) (S2 := [B1, B2]) (.cons h1 (.cons h2 .nil)) (.cons h3 (.cons h4 .nil)) hr hok
theorem s_brwN {c : Expr} {xc : IE} (h1 : JS X W (PrA [jb, jB]) a1 A1) (hc : JT X W xc c) (h2 : JS X W (PrB P [jF, jR]) a3 A3) (h3 : JS X W (PrB P [jF, jR, jb]) b1 B1) (h4 : JS X W (PrB P [jF, jR, jb]) b2 B2) (hr : JSs X W P ss rest) (hok : brOk P jF jR [jb, jB] = true := by rfl) :
    JSs X W P (.hk (hkB jF jR (coreN jF jR jB jb [a1] xc a3 [b1, b2])) :: ss) (A1 :: .If c [A3, B1, B2] [] pos :: rest) := ss_brwN (S1 := [A1]) (S2 := [B1, B2]) (.cons h1 .nil) hc h2 (.cons h3 (.cons h4 .nil)) hr hok
end
end Rx
end

section
/-! Rx: tuples of which more is known (tuple(), t.index) (plain) -/
namespace Rx
open PySem
def tupN : List D → Option OT
  | [.lst xs] => some (.fz (.tpn xs))
  | _ => none
end Rx
end

section
/-! Rx, part 45: tuples of which more is known: tuple(), t.index(x). -/
namespace Rx
open PySem PySem.Spec PyProof.Rows L2
variable [Prw]
section
variable {X : Cx}
/-- a new tuple, known as an object -/
theorem call_tupleN : CallR X (.type "tuple") (fun xs H Q => ∃ p ys, xs = [.ref p] ∧ SqL X.K H p ys ∧ ∀ l o, H l = none → o.cls = .type "tuple" → o.dict = none → Q (.ref l) (upd H l (.frz o (.tup ys)))) := by
  intro pn sh τ H xs us Q J0 rs hh
  obtain ⟨p, ys, rfl, hq, qq⟩ := hh
  obtain ⟨u, rfl, rx⟩ := vals1 rs
  cases rx
  obtain ⟨its, rw, pl, hz⟩ := J0.list hq
  have hln := rw.length
  refine call_tuple_list pl.isList (fun hp keep => ?_) (by simp only [List.size_toArray] <;> omega)
  have J1 : Inv X pn τ H { sh with heap := hp } := J0.kept (t' := sh.toks) keep
  have J2 : Inv X pn τ (upd H hp.objs.size (.frz { cls := .type "tuple", data := .seq its.toArray } (.tup ys))) { sh with heap := hp.push { cls := .type "tuple", data := .seq its.toArray } } :=
    J1.laid (t' := sh.toks) (fun b o e => Heap.get?_push_of_some _ e) (Nat.le_refl _) (show ObjOk X.prog X.w _ _ _ (.frz _ (.tup ys)) from ⟨Heap.get?_push_size _ rfl, hz, its, rw, IsTup.new _ _⟩)
  exact ⟨.ref hp.objs.size, _, J2, rfl, qq _ _ (J1.hok.fresh (Nat.le_refl _)) rfl rfl⟩
theorem bi_tupN (h : X.mg "tuple" = none) : HasBi X "tuple" tupN := ⟨h, by decide, .inr ⟨"tuple", rfl, CallR.cases fun ds t e => by
  obtain ⟨d, rfl⟩ := one_of e rfl (fun a b r => by cases a <;> rfl)
  refine ⟨_, call_tupleN, fun F H vs Q le p q => ?_⟩
  obtain ⟨v, rfl, p2⟩ := p.one
  cases d <;> first | (cases e; done) | skip
  case lst xs =>
    cases e
    obtain ⟨a, vs, rfl, h1, h2, h3⟩ := p2.items le
    exact ⟨a, vs, rfl, .inl (.inl h1), fun l o hl hc hd => q.new le hl (.tpn upd_same hc hd h2 (DRs.mono (same_up (Same.free le hl)) h3))⟩⟩⟩
end
section
variable {X : Cx} {W : WX} {k : Nat} {P : Nat → Bool} {pos p p2 apos cpos : Pos} {a b c e o : Expr} {es rest : List Expr} {xa xb xc x : IE} {xs : List IE}
theorem DR.wk {K : PySem.W.Frag} {mg : Str → Option Value} {F : Hp} {v : V} {ds : List D} (h : DR K mg F v (.tpn ds)) : DR K mg F v (.tup ds) := by
  cases h with
  | tpn h hc hd hz r => exact .tup (.inl (.inr ⟨_, h⟩)) hz r
theorem fmt_wk {K : PySem.W.Frag} {mg : Str → Option Value} {H F : Hp} {fp : List Addr} {σ : L2.St} {e : Ev} {v : V} {t : OT} {H' F' : Hp} {fpe fpv : List Addr} (p : VPost K mg H F fp σ e v t H' F' fpe fpv) :
    VPost K mg H F fp σ e v t.wk H' F' fpe fpv := by
  obtain ⟨q1, q2, q3, q4, q5⟩ := p
  refine ⟨q1, q2, ?_, q4, q5⟩
  cases q3 with
  | fz r =>
    rename_i d
    cases d with
    | tpn xs => exact .fz r.wk
    | _ => exact .fz r
  | lst h1 h2 h3 h4 => exact .lst h1 h2 h3 h4
  | dK h1 h2 => exact .dK h1 h2
  | dN h1 h2 => exact .dN h1 h2
  | ins h1 h2 h3 h4 => exact .ins h1 h2 h3 h4
/-- a tuple as any other -/
theorem e_wkn (h : JE X W x e) : JE X W (.wkn x) e := by
  refine PE.imp h fun σ H Q q => ?_
  obtain ⟨F, en, fp, ss, q⟩ := q
  have q : WP X.K X.mg W σ H F fp (((sem x).1 en).bind fun t e1 => R.ok t.wk e1) (FinV X.K X.mg H F fp σ Q) := q
  refine ⟨F, en, fp, ss, ?_⟩
  cases hm : (sem x).1 en with
  | bad => rw [hm] at q; exact q
  | exn y e1 => rw [hm] at q; exact q
  | ok t e1 =>
    rw [hm] at q
    intro v H' F' fpe fpv p
    exact q v H' _ fpe fpv (fmt_wk p)
/-- t.index(x): t is known as an object -/
theorem pe_tidx {to te : TE} (ho : PE X o to) (he : PE X e te) (hs : starEach [e] X.env = [(false, eval e X.env)]) (hbase : attributeBase o "index" X.env (eval o X.env) = eval o X.env) (hline : (apos.endLine == cpos.line) = true) :
    PE X (.Call (.Attribute o "index" apos) [e] [] cpos) (fun σ H Q => to σ H fun x H1 => (∃ q ob vs, x = .ref q ∧ H1 q = some (.frz ob (.tup vs)) ∧ ob.cls = .type "tuple" ∧ ob.dict = none) ∧ te σ H1 fun y H2 =>
      ∃ q, ∃ ys : List Str, ∃ z j, x = .ref q ∧ y = .str z ∧ SqT X.K H2 q (ys.map V.str) ∧ ys[j]? = some z ∧ (∀ m, m < j → ys[m]? ≠ some z) ∧ Q (.int (j : Nat)) H2) := by
  refine ⟨fun ps sh τ hp R J hh => ?_⟩
  refine PySem.Call_method1 hbase hs hline (thn (ho.run ps sh τ hp _ J hh) fun v s1 ⟨x, H1, I1, r1, q1⟩ => ?_)
  obtain ⟨⟨q, ob, vs, rfl, hq, hc, hd⟩, q1⟩ := q1
  cases r1
  obtain ⟨hob, _⟩ := I1.hok q _ hq
  refine ⟨"tuple", _, F.plainAttrs_tuple, F.slot_tuple_index, F.type_tuple_index, ⟨ob, hob, hc⟩, (fun a e => by cases e; exact ⟨ob, hob, hd⟩), Calls.callWith_builtin rfl (Calls.evalArgs_plain (Calls.spliced_cons ?_))⟩
  exact thn (he.run ps s1 τ H1 _ I1 q1) fun u s2 ⟨y, H2, I2, r2, q2⟩ => Calls.spliced_nil (by
    obtain ⟨q', ys, z, j, e1, rfl, h1, h2, h3, h4⟩ := q2
    cases e1
    exact mt_tup_index ps s2 τ H2 (.ref q) [.str z] _ [u] R I2 rfl (.cons r2 .nil) ⟨q, ys, z, j, rfl, rfl, h1, h2, h3, h4⟩)
theorem DRs.strs {K : PySem.W.Frag} {mg : Str → Option Value} {F : Hp} : ∀ {vs : List V} {ds : List D}, DRs K mg F vs ds → strsG ds = true → ∃ ys : List Str, vs = ys.map V.str
  | _, _, .nil, _ => ⟨[], rfl⟩
  | _, _, .cons (ds := ds) r rs, h => by
    cases r <;> first | (cases h; done) | skip
    rename_i x hx hx2
    obtain ⟨ys, rfl⟩ := DRs.strs rs (show strsG ds = true from h)
    exact ⟨strOf x :: ys, rfl⟩
theorem DRs.idx {K : PySem.W.Frag} {mg : Str → Option Value} {F : Hp} {s : List Nat} : ∀ {vs : List V} {ds : List D}, DRs K mg F vs ds → ∀ {n : Nat}, idxG s ds = some n → ∃ ys : List Str, vs = ys.map V.str ∧ ys[n]? = some (strOf s) ∧ ∀ m, m < n → ys[m]? ≠ some (strOf s)
  | _, _, .nil, _, hx => by cases hx
  | _, _, .cons (ds := ds) r rs, n, h => by
    cases r <;> first | (cases h; done) | skip
    rename_i x hx hx2
    have h : (if x = s then (if strsG ds = true then some 0 else none) else (idxG s ds).map (· + 1)) = some n := h
    by_cases e : x = s
    · subst e
      rw [if_pos rfl] at h
      by_cases g : strsG ds = true
      · rw [if_pos g] at h
        cases h
        obtain ⟨ys, rfl⟩ := DRs.strs rs g
        exact ⟨strOf x :: ys, rfl, rfl, fun m hm => absurd hm (Nat.not_lt_zero _)⟩
      · rw [if_neg g] at h; cases h
    · rw [if_neg e] at h
      cases hi : idxG s ds with
      | none => rw [hi] at h; cases h
      | some k =>
        rw [hi] at h
        cases h
        obtain ⟨ys, rfl, h1, h2⟩ := DRs.idx rs hi
        refine ⟨strOf x :: ys, rfl, h1, fun m hm => ?_⟩
        cases m with
        | zero =>
          intro z
          exact e (strOf_inj (Option.some.inj z))
        | succ m => exact h2 m (Nat.lt_of_succ_lt_succ hm)
theorem tpM_use {K : PySem.W.Frag} {mg : Str → Option Value} {σ : L2.St} {H F H0 F0 : Hp} {fp fp0 : List Addr} {e : Ev} {β : Type} {x : IE} {r : Option D} {v : V} {f : Unit → Ev → R β} {k : β → Ev → Prop} (ss : SS K mg H F σ e fp) (o : OpH K mg F σ x r v) (h : WP K mg W σ H0 F0 fp0 ((tpM x r e).bind f) k) :
    ∃ ds, PR K mg H F v (.tpn ds) ∧ WP K mg W σ H0 F0 fp0 (f () e) k := by
  have h2 : WP K mg W σ H0 F0 fp0 ((fin x r e).bind fun d e1 => ((match d with
      | .tpn _ => M.pure ()
      | _ => fun _ => R.bad : M Unit) e1).bind f) k := by
    unfold tpM at h
    rw [M.bind_app] at h
    cases hm : fin x r e <;> rw [hm] at h <;> exact h
  obtain ⟨d, pd, h3⟩ := fin_use ss o h2
  cases d <;> first | exact ⟨_, pd, h3⟩ | exact h3.elim
theorem e_index (ha : JO X W xa o) (hb : JO X W xb e) (hs : starEach [e] X.env = [(false, eval e X.env)] := by rfl) (hbase : attributeBase o "index" X.env (eval o X.env) = eval o X.env := by rfl) (hline : (apos.endLine == cpos.line) = true := by rfl) :
    JE X W (.tix xa xb) (.Call (.Attribute o "index" apos) [e] [] cpos) := by
  refine PE.imp (pe_tidx ha hb hs hbase hline) fun σ H Q h => ?_
  obtain ⟨F, en, fp, ss, h⟩ := h
  have h : WP X.K X.mg W σ H F fp ((opd xa (sem xa).1 en).bind fun ra e1 => (tpM xa ra e1).bind fun _ e2 => (opd xb (sem xb).1 e2).bind fun rb e3 => (fin xa ra e3).bind fun x e4 => (fin xb rb e4).bind fun y e5 => M.lift (idxD x y) e5) (FinV X.K X.mg H F fp σ Q) := h
  refine opd_use Stp.refl ss h fun v H1 F1 fp1 ra e1 s1 _ ss1 o1 h1 => ?_
  obtain ⟨ds, pd, h2⟩ := tpM_use ss1 o1 h1
  obtain ⟨q, ob, vs0, rfl, hq, hc, hd⟩ : ∃ q ob vs, v = .ref q ∧ H1 q = some (.frz ob (.tup vs)) ∧ ob.cls = .type "tuple" ∧ ob.dict = none := by
    cases pd with
    | fz d => cases d with
      | tpn h hc hd hz r => exact ⟨_, _, _, rfl, ss1.le _ _ h, hc, hd⟩
  refine ⟨⟨q, ob, vs0, rfl, hq, hc, hd⟩, ?_⟩
  refine opd_use s1 ss1 h2 fun w H2 F2 fp2 rb e2 s2 sf2 ss2 o2 h3 => ?_
  obtain ⟨d2, pd2, h4⟩ := fin_use ss2 (o1.mono sf2) h3
  obtain ⟨y, py, h5⟩ := fin_use ss2 o2 h4
  obtain ⟨t, ht, hq2⟩ := lift_end s2 ss2 h5
  cases d2 <;> first | (cases ht; done) | skip
  rename_i xs
  cases y <;> first | (cases ht; done) | skip
  rename_i s
  have ht : ((idxG s xs).map fun n => OT.fz (.int (n : Nat))) = some t := ht
  cases hi : idxG s xs with
  | none => rw [hi] at ht; cases ht
  | some n =>
    rw [hi] at ht
    cases ht
    cases py.all ss2.le
    cases pd2 with
    | fz d => cases d with
      | tpn h hc hd hz r =>
        obtain ⟨ys, rfl, i1, i2⟩ := DRs.idx r hi
        exact ⟨q, ys, strOf s, n, rfl, rfl, .inl (.inr ⟨_, ss2.le _ _ h⟩), i1, i2, hq2.same ss2.le (.int _)⟩
end
end Rx
end

section
open PySem Rx
namespace Gv
end Gv
namespace Ir
noncomputable def _law_cell : Def := ⟨2, [false, false], [.iff (.cmp .Lt ltD (.var 1) (.bi "len" lenD [(.var 0)])) [.ret (.ix (.var 0) (.var 1))] [], .ret (.con (.int 0))]⟩
noncomputable def _law_row : Def := ⟨7, [false, false, false], [.asg 3 (.lst []), .for_ (.nm 4) .rng2 [(.var 1), (.var 2)] [.asg 5 (.call "_law_cell" [false, false] Ir._law_cell.fn [(.var 0), (.var 4)]), .asg 5 (.bop .Add addD (.bi "abs" absD [(.bop .Mult mulD (.con (.int 2)) (.var 5))]) (.bi "int" intB [(.cmp .Lt ltD (.var 5) (.con (.int 0)))])), .iff (.cmp .Gt gtD (.var 5) (.bop .Pow powD (.con (.int 10)) (.con (.int 18)))) [.for_ (.nm 6) .rng1 [(.con (.int 60))] [.iff (.cmp .Gt gtD (.var 5) (.con (.int 0))) [.app 3 [] (.bop .Mod modD (.bi "int" intB [(.var 5)]) (.con (.int 840))), .asg 5 (.bop .FloorDiv fdivD (.var 5) (.con (.int 840)))] []]] [.for_ (.nm 6) .rng1 [(.con (.int 10))] [.asg 5 (.bop .Mod modD (.bi "int" intB [(.bop .Add addD (.bop .Add addD (.bop .Mult mulD (.var 5) (.con (.int 69069))) (.bop .Mult mulD (.con (.int 104729)) (.bop .Add addD (.var 4) (.var 6)))) (.con (.int 1)))]) (.con (.int 4294967291))), .app 3 [] (.bop .Mod modD (.bi "int" intB [(.bop .FloorDiv fdivD (.var 5) (.con (.int 5003)))]) (.con (.int 840)))]]], .ret (.var 3)]⟩
noncomputable def _law_draw : Def := ⟨3, [true, false], [.asg 2 (.ix (.var 0) (.con (.int 1))), .sto 0 [] (.con (.int 1)) (.fzz (.bop .Add addD (.var 2) (.con (.int 1)))), .iff (.cmp .Lt ltD (.var 2) (.bi "len" lenD [(.ix (.var 0) (.con (.int 0)))])) [.ret (.bop .Mod modD (.bi "int" intB [(.ix (.ix (.var 0) (.con (.int 0))) (.var 2))]) (.var 1))] [], .ret (.bop .Mod modD (.bi "int" intB [(.bop .Add addD (.bop .Mult mulD (.var 2) (.con (.int 5))) (.con (.int 1)))]) (.var 1))]⟩
noncomputable def _law_right : Def := ⟨1, [true], [.ret (.ix (.lst [(.con (.str [114, 119])), (.con (.str [114, 119])), (.con (.str [114])), (.con (.str [119])), (.con (.str [45])), (.con (.str [114, 119]))]) (.call "_law_draw" [true, false] Ir._law_draw.fn [(.var 0), (.con (.int 6))]))]⟩
noncomputable def _law_rights : Def := ⟨3, [true, false], [.ret (.bi "tuple" tupN [(.lc (.nm 2) .rng1 [(.var 1)] none (.call "_law_right" [true] Ir._law_right.fn [(.var 0)]) [2])])]⟩
noncomputable def _law_near : Def := ⟨4, [true, false], [.asg 2 (.bi "list" listB [(.var 1)]), .for_ (.nm 3) .rng1 [(.call "_law_draw" [true, false] Ir._law_draw.fn [(.var 0), (.con (.int 3))])] [.iff (.cmp .Gt gtD (.bi "len" lenD [(.var 2)]) (.con (.int 0))) [.sto 2 [] (.call "_law_draw" [true, false] Ir._law_draw.fn [(.var 0), (.bi "len" lenD [(.var 2)])]) (.call "_law_right" [true] Ir._law_right.fn [(.var 0)])] []], .ret (.bi "tuple" tupN [(.var 2)])]⟩
noncomputable def _find (self : Fn) : Def := ⟨4, [false, false], [.iff (.nt (.var 0)) [.ret (.con .non)] [], .for_ (.nm 2) .val [(.tup [(.con (.str [114])), (.con (.str [119]))])] [.iff (.und [(.cmp .In inD (.var 2) (.ix (.var 1) (.con (.int 0)))), (.cmp .NotIn ninD (.var 2) (.ix (.var 0) (.con (.int 0))))]) [.ret (.tup [(.lst []), (.var 2)])] []], .for_ (.nm 2) .val [(.tup [(.con (.str [114])), (.con (.str [119]))])] [.iff (.cmp .In inD (.var 2) (.ix (.var 1) (.con (.int 0)))) [.asg 3 (.ife (.cmp .Eq eqD (.var 2) (.con (.str [114]))) (.call "_find" [false, false] self [(.sl (.var 0) (some (.con (.int 1))) none), (.sl (.var 1) (some (.con (.int 1))) none)]) (.call "_find" [false, false] self [(.sl (.var 1) (some (.con (.int 1))) none), (.sl (.var 0) (some (.con (.int 1))) none)])), .iff (.cmp .IsNot nisD (.var 3) (.con .non)) [.ret (.tup [(.bop .Add addD (.lst [(.var 2)]) (.ix (.var 3) (.con (.int 0)))), (.ix (.var 3) (.con (.int 1)))])] []] []], .ret (.con .non)]⟩
noncomputable def _findN : Nat → Fn
  | 0 => fun _ => .bad
  | n + 1 => (_find (_findN n)).fn
noncomputable def converts : Def := ⟨2, [false, false], [.ret (.und [(.cmp .Eq eqD (.bi "len" lenD [(.var 0)]) (.bi "len" lenD [(.var 1)])), (.cmp .Is isD (.call "_find" [false, false] (Ir._findN 10) [(.var 0), (.var 1)]) (.con .non))])]⟩
noncomputable def _law_is : Def := ⟨2, [false, false], [.ret (.und [(.me "isinstance" (isiD "bool") (.var 0) []), (.cmp .Eq eqD (.var 0) (.var 1))])]⟩
noncomputable def _law_within : Def := ⟨3, [false, false], [.ret (.cmp .Eq eqD (.bi "len" lenD [(.lc (.nm 2) .val [(.var 0)] (some (.und [(.cmp .NotEq neD (.var 2) (.con (.str [45]))), (.cmp .NotIn ninD (.var 2) (.var 1))])) (.var 2) [2])]) (.con (.int 0)))]⟩
noncomputable def _law_converts (self : Fn) : Def := ⟨2, [false, false], [.iff (.cmp .NotEq neD (.bi "len" lenD [(.var 0)]) (.bi "len" lenD [(.var 1)])) [.ret (.con (.bl false))] [], .iff (.cmp .Eq eqD (.bi "len" lenD [(.var 0)]) (.con (.int 0))) [.ret (.con (.bl true))] [], .iff (.nt (.call "_law_within" [false, false] Ir._law_within.fn [(.ix (.var 1) (.con (.int 0))), (.ix (.var 0) (.con (.int 0)))])) [.ret (.con (.bl false))] [], .iff (.und [(.cmp .In inD (.con (.str [114])) (.ix (.var 1) (.con (.int 0)))), (.nt (.call "_law_converts" [false, false] self [(.sl (.var 0) (some (.con (.int 1))) none), (.sl (.var 1) (some (.con (.int 1))) none)]))]) [.ret (.con (.bl false))] [], .ret (.orr [(.cmp .NotIn ninD (.con (.str [119])) (.ix (.var 1) (.con (.int 0)))), (.call "_law_converts" [false, false] self [(.sl (.var 1) (some (.con (.int 1))) none), (.sl (.var 0) (some (.con (.int 1))) none)])])]⟩
noncomputable def _law_convertsN : Nat → Fn
  | 0 => fun _ => .bad
  | n + 1 => (_law_converts (_law_convertsN n)).fn
noncomputable def plain : Def := ⟨2, [false], [.iff (.cmp .NotIn ninD (.con (.str [45])) (.wkn (.var 0))) [.ret (.wkn (.var 0))] [], .asg 1 (.tix (.var 0) (.con (.str [45]))), .ret (.fzz (.bop .Add addD (.sl (.wkn (.var 0)) none (some (.var 1))) (.bop .Mult mulD (.tup [(.con (.str [45]))]) (.bop .Sub subD (.bi "len" lenD [(.wkn (.var 0))]) (.var 1)))))]⟩
noncomputable def _law_plain : Def := ⟨3, [false], [.asg 1 (.lst []), .for_ (.nm 2) .val [(.var 0)] [.iff (.cmp .In inD (.con (.str [45])) (.var 1)) [.asg 2 (.con (.str [45]))] [], .app 1 [] (.var 2)], .ret (.bi "tuple" tupB [(.var 1)])]⟩
noncomputable def are_alike : Def := ⟨2, [false, false], [.ret (.und [(.call "converts" [false, false] Ir.converts.fn [(.var 0), (.var 1)]), (.call "converts" [false, false] Ir.converts.fn [(.var 1), (.var 0)])])]⟩
noncomputable def law : Def := ⟨8, [false], [.asg 1 (.lst [(.call "_law_row" [false, false, false] Ir._law_row.fn [(.var 0), (.con (.int 0)), (.con (.int 40))]), (.con (.int 0))]), .for_ (.nm 2) .rng1 [(.con (.int 25))] [.asg 3 (.call "_law_rights" [true, false] Ir._law_rights.fn [(.var 1), (.call "_law_draw" [true, false] Ir._law_draw.fn [(.var 1), (.con (.int 6))])]), .asg 4 (.call "_law_near" [true, false] Ir._law_near.fn [(.var 1), (.wkn (.var 3))]), .asg 5 (.call "_law_near" [true, false] Ir._law_near.fn [(.var 1), (.wkn (.var 4))]), .iff (.cmp .Eq eqD (.call "_law_draw" [true, false] Ir._law_draw.fn [(.var 1), (.con (.int 12))]) (.con (.int 0))) [.asg 5 (.call "_law_rights" [true, false] Ir._law_rights.fn [(.var 1), (.call "_law_draw" [true, false] Ir._law_draw.fn [(.var 1), (.con (.int 6))])])] [], .for_ (.nm 6) .val [(.lst [(.tup [(.var 3), (.var 4)]), (.tup [(.var 4), (.var 3)]), (.tup [(.var 4), (.var 5)]), (.tup [(.var 3), (.var 5)]), (.tup [(.var 3), (.var 3)])])] [.iff (.nt (.call "_law_is" [false, false] Ir._law_is.fn [(.call "converts" [false, false] Ir.converts.fn [(.wkn (.ix (.var 6) (.con (.int 0)))), (.wkn (.ix (.var 6) (.con (.int 1))))]), (.call "_law_converts" [false, false] (Ir._law_convertsN 10) [(.wkn (.ix (.var 6) (.con (.int 0)))), (.wkn (.ix (.var 6) (.con (.int 1))))])])) [.ret (.con (.bl false))] [], .asg 7 (.und [(.call "_law_converts" [false, false] (Ir._law_convertsN 10) [(.wkn (.ix (.var 6) (.con (.int 0)))), (.wkn (.ix (.var 6) (.con (.int 1))))]), (.call "_law_converts" [false, false] (Ir._law_convertsN 10) [(.wkn (.ix (.var 6) (.con (.int 1)))), (.wkn (.ix (.var 6) (.con (.int 0))))])]), .iff (.nt (.call "_law_is" [false, false] Ir._law_is.fn [(.call "are_alike" [false, false] Ir.are_alike.fn [(.wkn (.ix (.var 6) (.con (.int 0)))), (.wkn (.ix (.var 6) (.con (.int 1))))]), (.var 7)])) [.ret (.con (.bl false))] [], .iff (.cmp .NotEq neD (.var 7) (.cmp .Eq eqD (.call "plain" [false] Ir.plain.fn [(.ix (.var 6) (.con (.int 0)))]) (.call "plain" [false] Ir.plain.fn [(.ix (.var 6) (.con (.int 1)))]))) [.ret (.con (.bl false))] []], .iff (.und [(.call "converts" [false, false] Ir.converts.fn [(.wkn (.var 3)), (.wkn (.var 4))]), (.call "converts" [false, false] Ir.converts.fn [(.wkn (.var 4)), (.wkn (.var 5))]), (.nt (.call "converts" [false, false] Ir.converts.fn [(.wkn (.var 3)), (.wkn (.var 5))]))]) [.ret (.con (.bl false))] [], .iff (.orr [(.cmp .NotEq neD (.call "plain" [false] Ir.plain.fn [(.var 3)]) (.call "_law_plain" [false] Ir._law_plain.fn [(.wkn (.var 3))])), (.nt (.call "converts" [false, false] Ir.converts.fn [(.wkn (.var 3)), (.wkn (.var 3))]))]) [.ret (.con (.bl false))] []], .ret (.con (.bl true))]⟩
end Ir
end

section
namespace K03
open PySem PySem.Spec PyProof.Rows L2 Rx
def topS (i : Nat) : Stmt := PySem.Challenge.pw_rightskept_k03_conversions.main.body.getD i (.Pass ⟨0, 0, 0, 0⟩)
abbrev S__law_cell : Stmt := topS 6
abbrev S__law_row : Stmt := topS 7
abbrev S__law_draw : Stmt := topS 8
abbrev S__law_right : Stmt := topS 9
abbrev S__law_rights : Stmt := topS 10
abbrev S__law_near : Stmt := topS 15
abbrev S__find : Stmt := topS 2
abbrev S_converts : Stmt := topS 1
abbrev S__law_is : Stmt := topS 16
abbrev S__law_within : Stmt := topS 11
abbrev S__law_converts : Stmt := topS 12
abbrev S_plain : Stmt := topS 4
abbrev S__law_plain : Stmt := topS 13
abbrev S_are_alike : Stmt := topS 3
abbrev S_law : Stmt := topS 17
structure En [Prw] (K : PySem.W.Frag) (mg : Str → Option Value) (base : Heap) : Prop where
  z_abs : mg "abs" = none
  z_bool : mg "bool" = none
  z_int : mg "int" = none
  z_isinstance : mg "isinstance" = none
  z_len : mg "len" = none
  z_list : mg "list" = none
  z_range : mg "range" = none
  z_tuple : mg "tuple" = none
  f__law_cell : ∃ f fd, Fun K "_law_cell" "_law_cell" S__law_cell f fd ∧ mg "_law_cell" = some (.ref f)
  f__law_row : ∃ f fd, Fun K "_law_row" "_law_row" S__law_row f fd ∧ mg "_law_row" = some (.ref f)
  f__law_draw : ∃ f fd, Fun K "_law_draw" "_law_draw" S__law_draw f fd ∧ mg "_law_draw" = some (.ref f)
  f__law_right : ∃ f fd, Fun K "_law_right" "_law_right" S__law_right f fd ∧ mg "_law_right" = some (.ref f)
  f__law_rights : ∃ f fd, Fun K "_law_rights" "_law_rights" S__law_rights f fd ∧ mg "_law_rights" = some (.ref f)
  f__law_near : ∃ f fd, Fun K "_law_near" "_law_near" S__law_near f fd ∧ mg "_law_near" = some (.ref f)
  f__find : ∃ f fd, Fun K "_find" "_find" S__find f fd ∧ mg "_find" = some (.ref f)
  f_converts : ∃ f fd, Fun K "converts" "converts" S_converts f fd ∧ mg "converts" = some (.ref f)
  f__law_is : ∃ f fd, Fun K "_law_is" "_law_is" S__law_is f fd ∧ mg "_law_is" = some (.ref f)
  f__law_within : ∃ f fd, Fun K "_law_within" "_law_within" S__law_within f fd ∧ mg "_law_within" = some (.ref f)
  f__law_converts : ∃ f fd, Fun K "_law_converts" "_law_converts" S__law_converts f fd ∧ mg "_law_converts" = some (.ref f)
  f_plain : ∃ f fd, Fun K "plain" "plain" S_plain f fd ∧ mg "plain" = some (.ref f)
  f__law_plain : ∃ f fd, Fun K "_law_plain" "_law_plain" S__law_plain f fd ∧ mg "_law_plain" = some (.ref f)
  f_are_alike : ∃ f fd, Fun K "are_alike" "are_alike" S_are_alike f fd ∧ mg "are_alike" = some (.ref f)
section
variable [Prw] {K : PySem.W.Frag} {mg : Str → Option Value} {base : Heap}
theorem sc__law_cell : FnScope ["_law_script", "_law_k"] ["_law_script", "_law_k"] (defScope S__law_cell) := ⟨rfl, rfl, rfl, by decide +kernel, rfl, by decide +kernel, by decide +kernel⟩
theorem h__law_cell (E : En K mg base) : HasFn Prw.P Prw.w K mg base 1 "_law_cell" [false, false] Ir._law_cell.fn := by
  obtain ⟨f, fd, Fu, hm⟩ := E.f__law_cell
  exact fn_ok (d := Ir._law_cell) Fu sc__law_cell hm rfl rfl (fun _ _ _ _ _ _ us hl => match us, hl with | [_, _], _ => rfl) fun cdv A outer s H Ex c hp =>
    (s_cons (s_if (t_cmp od_lt (o_var 1) (o_e (e_bi (bi_len c.pw c.ww E.z_len) (lo_cons (o_var 0) lo_nil))))
     (s_cons (s_ret (e_ix c (o_var 0) (o_var 1)))
     s_nil)
     s_nil)
    (s_cons (s_ret e_int)
    s_nil))
theorem sc__law_row : FnScope ["_law_script", "_law_first", "_law_last", "_law_row_here", "_law_k", "_law_cell_here", "_law_turn"] ["_law_script", "_law_first", "_law_last"] (defScope S__law_row) := ⟨rfl, rfl, rfl, by decide +kernel, rfl, by decide +kernel, by decide +kernel⟩
theorem h__law_row (E : En K mg base) : HasFn Prw.P Prw.w K mg base 2 "_law_row" [false, false, false] Ir._law_row.fn := by
  obtain ⟨f, fd, Fu, hm⟩ := E.f__law_row
  exact fn_ok (d := Ir._law_row) Fu sc__law_row hm rfl rfl (fun _ _ _ _ _ _ us hl => match us, hl with | [_, _, _], _ => rfl) fun cdv A outer s H Ex c hp =>
    (s_cons (s_asg 3 c (e_lst l_nil))
    (s_cons (s_for c hp (i_rng2 E.z_range (e_var 1) (e_var 2)) (g_nm 4 c)
     (s_cons (s_asg 5 c (e_call c (h__law_cell E) (la_cons (r_f (e_var 0)) (la_cons (r_f (e_var 4)) la_nil))))
     (s_cons (s_asg 5 c (e_bop od_add (o_e (e_bi (bi_abs E.z_abs) (lo_cons (o_e (e_bop od_mul (o_e e_int) (o_var 5))) lo_nil))) (o_e (e_bi (bi_int E.z_int) (lo_cons (o_e (e_cmp od_lt (o_var 5) (o_e e_int))) lo_nil)))))
     (s_cons (s_if (t_cmp od_gt (o_var 5) (o_e (e_bop od_pow (o_e e_int) (o_e e_int))))
      (s_cons (s_for c hp (i_rng1 E.z_range e_int) (g_nm 6 c)
       (s_cons (s_if (t_cmp od_gt (o_var 5) (o_e e_int))
        (s_cons (s_app 3 (pv 3) (e_bop od_mod (o_e (e_bi (bi_int E.z_int) (lo_cons (o_var 5) lo_nil))) (o_e e_int)))
        (s_cons (s_asg 5 c (e_bop od_fdiv (o_var 5) (o_e e_int)))
        s_nil))
        s_nil)
       s_nil))
      s_nil)
      (s_cons (s_for c hp (i_rng1 E.z_range e_int) (g_nm 6 c)
       (s_cons (s_asg 5 c (e_bop od_mod (o_e (e_bi (bi_int E.z_int) (lo_cons (o_e (e_bop od_add (o_e (e_bop od_add (o_e (e_bop od_mul (o_var 5) (o_e e_int))) (o_e (e_bop od_mul (o_e e_int) (o_e (e_bop od_add (o_var 4) (o_var 6))))))) (o_e e_int))) lo_nil))) (o_e e_int)))
       (s_cons (s_app 3 (pv 3) (e_bop od_mod (o_e (e_bi (bi_int E.z_int) (lo_cons (o_e (e_bop od_fdiv (o_var 5) (o_e e_int))) lo_nil))) (o_e e_int)))
       s_nil)))
      s_nil))
     s_nil))))
    (s_cons (s_ret (e_var 3))
    s_nil)))
theorem sc__law_draw : FnScope ["_law_box", "_law_many", "_law_at"] ["_law_box", "_law_many"] (defScope S__law_draw) := ⟨rfl, rfl, rfl, by decide +kernel, rfl, by decide +kernel, by decide +kernel⟩
theorem h__law_draw (E : En K mg base) : HasFn Prw.P Prw.w K mg base 1 "_law_draw" [true, false] Ir._law_draw.fn := by
  obtain ⟨f, fd, Fu, hm⟩ := E.f__law_draw
  exact fn_ok (d := Ir._law_draw) Fu sc__law_draw hm rfl rfl (fun _ _ _ _ _ _ us hl => match us, hl with | [_, _], _ => rfl) fun cdv A outer s H Ex c hp =>
    (s_cons (s_asg 2 c (e_ix c (o_var 0) (o_e e_int)))
    (s_cons (s_sto 0 c (o_e e_int) (e_fz (e_bop od_add (o_var 2) (o_e e_int))) (pv 0))
    (s_cons (s_if (t_cmp od_lt (o_var 2) (o_e (e_bi (bi_len c.pw c.ww E.z_len) (lo_cons (o_e (e_ix c (o_var 0) (o_e e_int))) lo_nil))))
     (s_cons (s_ret (e_bop od_mod (o_e (e_bi (bi_int E.z_int) (lo_cons (o_e (e_ix c (o_e (e_ix c (o_var 0) (o_e e_int))) (o_var 2))) lo_nil))) (o_var 1)))
     s_nil)
     s_nil)
    (s_cons (s_ret (e_bop od_mod (o_e (e_bi (bi_int E.z_int) (lo_cons (o_e (e_bop od_add (o_e (e_bop od_mul (o_var 2) (o_e e_int))) (o_e e_int))) lo_nil))) (o_var 1)))
    s_nil))))
theorem sc__law_right : FnScope ["_law_box"] ["_law_box"] (defScope S__law_right) := ⟨rfl, rfl, rfl, by decide +kernel, rfl, by decide +kernel, by decide +kernel⟩
theorem h__law_right (E : En K mg base) : HasFn Prw.P Prw.w K mg base 2 "_law_right" [true] Ir._law_right.fn := by
  obtain ⟨f, fd, Fu, hm⟩ := E.f__law_right
  exact fn_ok (d := Ir._law_right) Fu sc__law_right hm rfl rfl (fun _ _ _ _ _ _ us hl => match us, hl with | [_], _ => rfl) fun cdv A outer s H Ex c hp =>
    (s_cons (s_ret (e_ix c (o_e (e_lst (l_cons e_str (l_cons e_str (l_cons e_str (l_cons e_str (l_cons e_str (l_cons e_str l_nil)))))))) (o_e (e_call c (h__law_draw E) (la_cons (r_var 0) (la_cons (r_f e_int) la_nil))))))
    s_nil)
theorem sc__law_rights : FnScope ["_law_box", "_law_many", "_law_k"] ["_law_box", "_law_many"] (defScope S__law_rights) := ⟨rfl, rfl, rfl, by decide +kernel, rfl, by decide +kernel, by decide +kernel⟩
theorem h__law_rights (E : En K mg base) : HasFn Prw.P Prw.w K mg base 3 "_law_rights" [true, false] Ir._law_rights.fn := by
  obtain ⟨f, fd, Fu, hm⟩ := E.f__law_rights
  exact fn_ok (d := Ir._law_rights) Fu sc__law_rights hm rfl rfl (fun _ _ _ _ _ _ us hl => match us, hl with | [_, _], _ => rfl) fun cdv A outer s H Ex c hp =>
    (s_cons (s_ret (e_bi (bi_tupN E.z_tuple) (lo_cons (o_e (e_lc (own := [("_law_k", 2)]) c (i_rng1 E.z_range (e_var 1)) (fun _ _ _ _ _ => (g_nm 2 (c.blk))) (fun _ _ _ _ _ => c_no) (fun _ _ _ _ _ => (e_call (c.blk) (h__law_right E) (la_cons (r_var 0) la_nil))))) lo_nil)))
    s_nil)
theorem sc__law_near : FnScope ["_law_box", "_law_one", "_law_out", "_law_turn"] ["_law_box", "_law_one"] (defScope S__law_near) := ⟨rfl, rfl, rfl, by decide +kernel, rfl, by decide +kernel, by decide +kernel⟩
theorem h__law_near (E : En K mg base) : HasFn Prw.P Prw.w K mg base 3 "_law_near" [true, false] Ir._law_near.fn := by
  obtain ⟨f, fd, Fu, hm⟩ := E.f__law_near
  exact fn_ok (d := Ir._law_near) Fu sc__law_near hm rfl rfl (fun _ _ _ _ _ _ us hl => match us, hl with | [_, _], _ => rfl) fun cdv A outer s H Ex c hp =>
    (s_cons (s_asg 2 c (e_bi (bi_list E.z_list) (lo_cons (o_var 1) lo_nil)))
    (s_cons (s_for c hp (i_rng1 E.z_range (e_call c (h__law_draw E) (la_cons (r_var 0) (la_cons (r_f e_int) la_nil)))) (g_nm 3 c)
     (s_cons (s_if (t_cmp od_gt (o_e (e_bi (bi_len c.pw c.ww E.z_len) (lo_cons (o_var 2) lo_nil))) (o_e e_int))
      (s_cons (s_sto 2 c (o_e (e_call c (h__law_draw E) (la_cons (r_var 0) (la_cons (r_f (e_bi (bi_len c.pw c.ww E.z_len) (lo_cons (o_var 2) lo_nil))) la_nil)))) (e_call c (h__law_right E) (la_cons (r_var 0) la_nil)) (pv 2))
      s_nil)
      s_nil)
     s_nil))
    (s_cons (s_ret (e_bi (bi_tupN E.z_tuple) (lo_cons (o_var 2) lo_nil)))
    s_nil)))
theorem sc__find : FnScope ["one", "two", "letter", "told"] ["one", "two"] (defScope S__find) := ⟨rfl, rfl, rfl, by decide +kernel, rfl, by decide +kernel, by decide +kernel⟩
theorem h__find (E : En K mg base) : ∀ n : Nat, HasFn Prw.P Prw.w K mg base (0 + n) "_find" [false, false] (Ir._findN n)
  | 0 => by
    obtain ⟨f, fd, Fu, hm⟩ := E.f__find
    exact fn_none Fu sc__find hm (fun _ _ _ _ _ _ us hl => match us, hl with | [_, _], _ => rfl)
  | n + 1 => by
    have ih := h__find E n
    obtain ⟨f, fd, Fu, hm⟩ := E.f__find
    refine fn_ok (k := 0 + n) (d := Ir._find (Ir._findN n)) Fu sc__find hm rfl rfl (fun _ _ _ _ _ _ us hl => match us, hl with | [_, _], _ => rfl) fun cdv A outer s H Ex c hp => ?_
    have hk : decide (0 + n ≤ 0 + n) = true := decide_eq_true (Nat.le_refl _)
    exact (s_cons (s_if (t_not (t_of (o_var 0)))
     (s_cons (s_ret e_non)
     s_nil)
     s_nil)
    (s_cons (s_for c hp (i_val (e_tup (l_cons e_str (l_cons e_str l_nil)))) (g_nm 2 c)
     (s_cons (s_if (t_and (w_and (t_cmp (od_in c.pw c.ww c.u65) (o_var 2) (o_e (e_ix c (o_var 1) (o_e e_int)))) (w_and1 (t_cmp (od_nin c.pw c.ww c.u65) (o_var 2) (o_e (e_ix c (o_var 0) (o_e e_int)))))))
      (s_cons (s_ret (e_tup (l_cons (e_lst l_nil) (l_cons (e_var 2) l_nil))))
      s_nil)
      s_nil)
     s_nil))
    (s_cons (s_for c hp (i_val (e_tup (l_cons e_str (l_cons e_str l_nil)))) (g_nm 2 c)
     (s_cons (s_if (t_cmp (od_in c.pw c.ww c.u65) (o_var 2) (o_e (e_ix c (o_var 1) (o_e e_int))))
      (s_cons (s_asg 3 c (e_if (t_cmp (od_eq c.u64) (o_var 2) (o_e e_str)) (e_call c ih (la_cons (r_f (e_sl (o_var 0) (po_s e_int) po_n)) (la_cons (r_f (e_sl (o_var 1) (po_s e_int) po_n)) la_nil)) hk) (e_call c ih (la_cons (r_f (e_sl (o_var 1) (po_s e_int) po_n)) (la_cons (r_f (e_sl (o_var 0) (po_s e_int) po_n)) la_nil)) hk)))
      (s_cons (s_if (t_cmp od_nis (o_var 3) (o_e e_non))
       (s_cons (s_ret (e_tup (l_cons (e_bop od_add (o_e (e_lst (l_cons (e_var 2) l_nil))) (o_e (e_ix c (o_var 3) (o_e e_int)))) (l_cons (e_ix c (o_var 3) (o_e e_int)) l_nil))))
       s_nil)
       s_nil)
      s_nil))
      s_nil)
     s_nil))
    (s_cons (s_ret e_non)
    s_nil))))
theorem sc_converts : FnScope ["one", "two"] ["one", "two"] (defScope S_converts) := ⟨rfl, rfl, rfl, by decide +kernel, rfl, by decide +kernel, by decide +kernel⟩
theorem h_converts (E : En K mg base) : HasFn Prw.P Prw.w K mg base 11 "converts" [false, false] Ir.converts.fn := by
  obtain ⟨f, fd, Fu, hm⟩ := E.f_converts
  exact fn_ok (d := Ir.converts) Fu sc_converts hm rfl rfl (fun _ _ _ _ _ _ us hl => match us, hl with | [_, _], _ => rfl) fun cdv A outer s H Ex c hp =>
    (s_cons (s_ret (e_and (e_cmp (od_eq c.u64) (o_e (e_bi (bi_len c.pw c.ww E.z_len) (lo_cons (o_var 0) lo_nil))) (o_e (e_bi (bi_len c.pw c.ww E.z_len) (lo_cons (o_var 1) lo_nil)))) (e_and1 (e_cmp od_is (o_e (e_call c (h__find E 10) (la_cons (r_f (e_var 0)) (la_cons (r_f (e_var 1)) la_nil)))) (o_e e_non)))))
    s_nil)
theorem sc__law_is : FnScope ["_law_told", "_law_due"] ["_law_told", "_law_due"] (defScope S__law_is) := ⟨rfl, rfl, rfl, by decide +kernel, rfl, by decide +kernel, by decide +kernel⟩
theorem h__law_is (E : En K mg base) : HasFn Prw.P Prw.w K mg base 1 "_law_is" [false, false] Ir._law_is.fn := by
  obtain ⟨f, fd, Fu, hm⟩ := E.f__law_is
  exact fn_ok (d := Ir._law_is) Fu sc__law_is hm rfl rfl (fun _ _ _ _ _ _ us hl => match us, hl with | [_, _], _ => rfl) fun cdv A outer s H Ex c hp =>
    (s_cons (s_ret (e_and (e_isi (T := "bool") E.z_isinstance E.z_bool (o_var 0)) (e_and1 (e_cmp (od_eq c.u64) (o_var 0) (o_var 1)))))
    s_nil)
theorem sc__law_within : FnScope ["_law_one", "_law_two", "_law_letter"] ["_law_one", "_law_two"] (defScope S__law_within) := ⟨rfl, rfl, rfl, by decide +kernel, rfl, by decide +kernel, by decide +kernel⟩
theorem h__law_within (E : En K mg base) : HasFn Prw.P Prw.w K mg base 1 "_law_within" [false, false] Ir._law_within.fn := by
  obtain ⟨f, fd, Fu, hm⟩ := E.f__law_within
  exact fn_ok (d := Ir._law_within) Fu sc__law_within hm rfl rfl (fun _ _ _ _ _ _ us hl => match us, hl with | [_, _], _ => rfl) fun cdv A outer s H Ex c hp =>
    (s_cons (s_ret (e_cmp (od_eq c.u64) (o_e (e_bi (bi_len c.pw c.ww E.z_len) (lo_cons (o_e (e_lc (own := [("_law_letter", 2)]) c (i_val (e_var 0)) (fun _ _ _ _ _ => (g_nm 2 (c.blk))) (fun _ _ _ _ _ => (c_if (t_and (w_and (t_cmp (od_ne (c.blk).u64) (o_var 2) (o_e e_str)) (w_and1 (t_cmp (od_nin (c.blk).pw (c.blk).ww (c.blk).u65) (o_var 2) (o_var 1))))))) (fun _ _ _ _ _ => (e_var 2)))) lo_nil))) (o_e e_int)))
    s_nil)
theorem sc__law_converts : FnScope ["_law_one", "_law_two"] ["_law_one", "_law_two"] (defScope S__law_converts) := ⟨rfl, rfl, rfl, by decide +kernel, rfl, by decide +kernel, by decide +kernel⟩
theorem h__law_converts (E : En K mg base) : ∀ n : Nat, HasFn Prw.P Prw.w K mg base (1 + n) "_law_converts" [false, false] (Ir._law_convertsN n)
  | 0 => by
    obtain ⟨f, fd, Fu, hm⟩ := E.f__law_converts
    exact fn_none Fu sc__law_converts hm (fun _ _ _ _ _ _ us hl => match us, hl with | [_, _], _ => rfl)
  | n + 1 => by
    have ih := h__law_converts E n
    obtain ⟨f, fd, Fu, hm⟩ := E.f__law_converts
    refine fn_ok (k := 1 + n) (d := Ir._law_converts (Ir._law_convertsN n)) Fu sc__law_converts hm rfl rfl (fun _ _ _ _ _ _ us hl => match us, hl with | [_, _], _ => rfl) fun cdv A outer s H Ex c hp => ?_
    have hk : decide (1 + n ≤ 1 + n) = true := decide_eq_true (Nat.le_refl _)
    exact (s_cons (s_if (t_cmp (od_ne c.u64) (o_e (e_bi (bi_len c.pw c.ww E.z_len) (lo_cons (o_var 0) lo_nil))) (o_e (e_bi (bi_len c.pw c.ww E.z_len) (lo_cons (o_var 1) lo_nil))))
     (s_cons (s_ret e_bl)
     s_nil)
     s_nil)
    (s_cons (s_if (t_cmp (od_eq c.u64) (o_e (e_bi (bi_len c.pw c.ww E.z_len) (lo_cons (o_var 0) lo_nil))) (o_e e_int))
     (s_cons (s_ret e_bl)
     s_nil)
     s_nil)
    (s_cons (s_if (t_not (t_of (o_e (e_call c (h__law_within E) (la_cons (r_f (e_ix c (o_var 1) (o_e e_int))) (la_cons (r_f (e_ix c (o_var 0) (o_e e_int))) la_nil)) (decide_eq_true (by omega))))))
     (s_cons (s_ret e_bl)
     s_nil)
     s_nil)
    (s_cons (s_if (t_and (w_and (t_cmp (od_in c.pw c.ww c.u65) (o_e e_str) (o_e (e_ix c (o_var 1) (o_e e_int)))) (w_and1 (t_not (t_of (o_e (e_call c ih (la_cons (r_f (e_sl (o_var 0) (po_s e_int) po_n)) (la_cons (r_f (e_sl (o_var 1) (po_s e_int) po_n)) la_nil)) hk)))))))
     (s_cons (s_ret e_bl)
     s_nil)
     s_nil)
    (s_cons (s_ret (e_or (e_cmp (od_nin c.pw c.ww c.u65) (o_e e_str) (o_e (e_ix c (o_var 1) (o_e e_int)))) (e_or1 (e_call c ih (la_cons (r_f (e_sl (o_var 1) (po_s e_int) po_n)) (la_cons (r_f (e_sl (o_var 0) (po_s e_int) po_n)) la_nil)) hk))))
    s_nil)))))
theorem sc_plain : FnScope ["one", "place"] ["one"] (defScope S_plain) := ⟨rfl, rfl, rfl, by decide +kernel, rfl, by decide +kernel, by decide +kernel⟩
theorem h_plain (E : En K mg base) : HasFn Prw.P Prw.w K mg base 1 "plain" [false] Ir.plain.fn := by
  obtain ⟨f, fd, Fu, hm⟩ := E.f_plain
  exact fn_ok (d := Ir.plain) Fu sc_plain hm rfl rfl (fun _ _ _ _ _ _ us hl => match us, hl with | [_], _ => rfl) fun cdv A outer s H Ex c hp =>
    (s_cons (s_if (t_cmp (od_nin c.pw c.ww c.u65) (o_e e_str) (o_e (e_wkn (e_var 0))))
     (s_cons (s_ret (e_wkn (e_var 0)))
     s_nil)
     s_nil)
    (s_cons (s_asg 1 c (e_index (o_var 0) (o_e e_str)))
    (s_cons (s_ret (e_fz (e_bop od_add (o_e (e_sl (o_e (e_wkn (e_var 0))) po_n (po_s (e_var 1)))) (o_e (e_bop od_mul (o_e (e_tup (l_cons e_str l_nil))) (o_e (e_bop od_sub (o_e (e_bi (bi_len c.pw c.ww E.z_len) (lo_cons (o_e (e_wkn (e_var 0))) lo_nil))) (o_var 1))))))))
    s_nil)))
theorem sc__law_plain : FnScope ["_law_one", "_law_out", "_law_right_here"] ["_law_one"] (defScope S__law_plain) := ⟨rfl, rfl, rfl, by decide +kernel, rfl, by decide +kernel, by decide +kernel⟩
theorem h__law_plain (E : En K mg base) : HasFn Prw.P Prw.w K mg base 1 "_law_plain" [false] Ir._law_plain.fn := by
  obtain ⟨f, fd, Fu, hm⟩ := E.f__law_plain
  exact fn_ok (d := Ir._law_plain) Fu sc__law_plain hm rfl rfl (fun _ _ _ _ _ _ us hl => match us, hl with | [_], _ => rfl) fun cdv A outer s H Ex c hp =>
    (s_cons (s_asg 1 c (e_lst l_nil))
    (s_cons (s_for c hp (i_val (e_var 0)) (g_nm 2 c)
     (s_cons (s_if (t_cmp (od_in c.pw c.ww c.u65) (o_e e_str) (o_var 1))
      (s_cons (s_asg 2 c e_str)
      s_nil)
      s_nil)
     (s_cons (s_app 1 (pv 1) (e_var 2))
     s_nil)))
    (s_cons (s_ret (e_bi (bi_tuple E.z_tuple) (lo_cons (o_var 1) lo_nil)))
    s_nil)))
theorem sc_are_alike : FnScope ["one", "two"] ["one", "two"] (defScope S_are_alike) := ⟨rfl, rfl, rfl, by decide +kernel, rfl, by decide +kernel, by decide +kernel⟩
theorem h_are_alike (E : En K mg base) : HasFn Prw.P Prw.w K mg base 12 "are_alike" [false, false] Ir.are_alike.fn := by
  obtain ⟨f, fd, Fu, hm⟩ := E.f_are_alike
  exact fn_ok (d := Ir.are_alike) Fu sc_are_alike hm rfl rfl (fun _ _ _ _ _ _ us hl => match us, hl with | [_, _], _ => rfl) fun cdv A outer s H Ex c hp =>
    (s_cons (s_ret (e_and (e_call c (h_converts E) (la_cons (r_f (e_var 0)) (la_cons (r_f (e_var 1)) la_nil))) (e_and1 (e_call c (h_converts E) (la_cons (r_f (e_var 1)) (la_cons (r_f (e_var 0)) la_nil))))))
    s_nil)
theorem sc_law : FnScope ["_law_script", "_law_box", "_law_turn", "_law_one", "_law_two", "_law_three", "_law_pair", "_law_both"] ["_law_script"] (defScope S_law) := ⟨rfl, rfl, rfl, by decide +kernel, rfl, by decide +kernel, by decide +kernel⟩
theorem fnk_law {f : Addr} {fd : FuncData} (E : En K mg base) (Fu : Fun K "law" "law" S_law f fd) : FnOk Prw.P Prw.w K mg base (L2.CX Prw.P Prw.w) 13 f fd ["_law_script"] (spF K mg [false] Ir.law.fn) := by

  exact fn_ok0 (d := Ir.law) Fu sc_law rfl rfl fun cdv A outer s H Ex c hp =>
    (s_cons (s_asg 1 c (e_lst (l_cons (e_call c (h__law_row E) (la_cons (r_f (e_var 0)) (la_cons (r_f e_int) (la_cons (r_f e_int) la_nil)))) (l_cons e_int l_nil))))
    (s_cons (s_for c hp (i_rng1 E.z_range e_int) (g_nm 2 c)
     (s_cons (s_asg 3 c (e_call c (h__law_rights E) (la_cons (r_var 1) (la_cons (r_f (e_call c (h__law_draw E) (la_cons (r_var 1) (la_cons (r_f e_int) la_nil)))) la_nil))))
     (s_cons (s_asg 4 c (e_call c (h__law_near E) (la_cons (r_var 1) (la_cons (r_f (e_wkn (e_var 3))) la_nil))))
     (s_cons (s_asg 5 c (e_call c (h__law_near E) (la_cons (r_var 1) (la_cons (r_f (e_wkn (e_var 4))) la_nil))))
     (s_cons (s_if (t_cmp (od_eq c.u64) (o_e (e_call c (h__law_draw E) (la_cons (r_var 1) (la_cons (r_f e_int) la_nil)))) (o_e e_int))
      (s_cons (s_asg 5 c (e_call c (h__law_rights E) (la_cons (r_var 1) (la_cons (r_f (e_call c (h__law_draw E) (la_cons (r_var 1) (la_cons (r_f e_int) la_nil)))) la_nil))))
      s_nil)
      s_nil)
     (s_cons (s_for c hp (i_val (e_lst (l_cons (e_tup (l_cons (e_var 3) (l_cons (e_var 4) l_nil))) (l_cons (e_tup (l_cons (e_var 4) (l_cons (e_var 3) l_nil))) (l_cons (e_tup (l_cons (e_var 4) (l_cons (e_var 5) l_nil))) (l_cons (e_tup (l_cons (e_var 3) (l_cons (e_var 5) l_nil))) (l_cons (e_tup (l_cons (e_var 3) (l_cons (e_var 3) l_nil))) l_nil))))))) (g_nm 6 c)
      (s_cons (s_if (t_not (t_of (o_e (e_call c (h__law_is E) (la_cons (r_f (e_call c (h_converts E) (la_cons (r_f (e_wkn (e_ix c (o_var 6) (o_e e_int)))) (la_cons (r_f (e_wkn (e_ix c (o_var 6) (o_e e_int)))) la_nil)))) (la_cons (r_f (e_call c (h__law_converts E 10) (la_cons (r_f (e_wkn (e_ix c (o_var 6) (o_e e_int)))) (la_cons (r_f (e_wkn (e_ix c (o_var 6) (o_e e_int)))) la_nil)))) la_nil))))))
       (s_cons (s_ret e_bl)
       s_nil)
       s_nil)
      (s_cons (s_asg 7 c (e_and (e_call c (h__law_converts E 10) (la_cons (r_f (e_wkn (e_ix c (o_var 6) (o_e e_int)))) (la_cons (r_f (e_wkn (e_ix c (o_var 6) (o_e e_int)))) la_nil))) (e_and1 (e_call c (h__law_converts E 10) (la_cons (r_f (e_wkn (e_ix c (o_var 6) (o_e e_int)))) (la_cons (r_f (e_wkn (e_ix c (o_var 6) (o_e e_int)))) la_nil))))))
      (s_cons (s_if (t_not (t_of (o_e (e_call c (h__law_is E) (la_cons (r_f (e_call c (h_are_alike E) (la_cons (r_f (e_wkn (e_ix c (o_var 6) (o_e e_int)))) (la_cons (r_f (e_wkn (e_ix c (o_var 6) (o_e e_int)))) la_nil)))) (la_cons (r_f (e_var 7)) la_nil))))))
       (s_cons (s_ret e_bl)
       s_nil)
       s_nil)
      (s_cons (s_if (t_cmp (od_ne c.u64) (o_var 7) (o_e (e_cmp (od_eq c.u64) (o_e (e_call c (h_plain E) (la_cons (r_f (e_ix c (o_var 6) (o_e e_int))) la_nil))) (o_e (e_call c (h_plain E) (la_cons (r_f (e_ix c (o_var 6) (o_e e_int))) la_nil))))))
       (s_cons (s_ret e_bl)
       s_nil)
       s_nil)
      s_nil)))))
     (s_cons (s_if (t_and (w_and (t_of (o_e (e_call c (h_converts E) (la_cons (r_f (e_wkn (e_var 3))) (la_cons (r_f (e_wkn (e_var 4))) la_nil))))) (w_and (t_of (o_e (e_call c (h_converts E) (la_cons (r_f (e_wkn (e_var 4))) (la_cons (r_f (e_wkn (e_var 5))) la_nil))))) (w_and1 (t_not (t_of (o_e (e_call c (h_converts E) (la_cons (r_f (e_wkn (e_var 3))) (la_cons (r_f (e_wkn (e_var 5))) la_nil))))))))))
      (s_cons (s_ret e_bl)
      s_nil)
      s_nil)
     (s_cons (s_if (t_or (w_or (t_cmp (od_ne c.u64) (o_e (e_call c (h_plain E) (la_cons (r_f (e_var 3)) la_nil))) (o_e (e_call c (h__law_plain E) (la_cons (r_f (e_wkn (e_var 3))) la_nil)))) (w_or1 (t_not (t_of (o_e (e_call c (h_converts E) (la_cons (r_f (e_wkn (e_var 3))) (la_cons (r_f (e_wkn (e_var 3))) la_nil)))))))))
      (s_cons (s_ret e_bl)
      s_nil)
      s_nil)
     s_nil))))))))
    (s_cons (s_ret e_bl)
    s_nil)))
end
theorem all_mk {l : PySem.W.OpenLaw} {w : World} {K : PySem.W.Frag} {h : Heap} {mg : Str → Option Value} {fa : Addr} (X : K.In h) (G : h.Ns mainGlobals mg) (hfa : mg "law" = some (.ref fa))
    {f__law_cell : Addr} {od__law_cell an__law_cell : Option Addr} {sl__law_cell : Array (Option Value)} {oc__law_cell kV__law_cell dc__law_cell pm__law_cell cd__law_cell ct__law_cell : Value} {f__law_row : Addr} {od__law_row an__law_row : Option Addr} {sl__law_row : Array (Option Value)} {oc__law_row kV__law_row dc__law_row pm__law_row cd__law_row ct__law_row : Value} {f__law_draw : Addr} {od__law_draw an__law_draw : Option Addr} {sl__law_draw : Array (Option Value)} {oc__law_draw kV__law_draw dc__law_draw pm__law_draw cd__law_draw ct__law_draw : Value} {f__law_right : Addr} {od__law_right an__law_right : Option Addr} {sl__law_right : Array (Option Value)} {oc__law_right kV__law_right dc__law_right pm__law_right cd__law_right ct__law_right : Value} {f__law_rights : Addr} {od__law_rights an__law_rights : Option Addr} {sl__law_rights : Array (Option Value)} {oc__law_rights kV__law_rights dc__law_rights pm__law_rights cd__law_rights ct__law_rights : Value} {f__law_near : Addr} {od__law_near an__law_near : Option Addr} {sl__law_near : Array (Option Value)} {oc__law_near kV__law_near dc__law_near pm__law_near cd__law_near ct__law_near : Value} {f__find : Addr} {od__find an__find : Option Addr} {sl__find : Array (Option Value)} {oc__find kV__find dc__find pm__find cd__find ct__find : Value} {f_converts : Addr} {od_converts an_converts : Option Addr} {sl_converts : Array (Option Value)} {oc_converts kV_converts dc_converts pm_converts cd_converts ct_converts : Value} {f__law_is : Addr} {od__law_is an__law_is : Option Addr} {sl__law_is : Array (Option Value)} {oc__law_is kV__law_is dc__law_is pm__law_is cd__law_is ct__law_is : Value} {f__law_within : Addr} {od__law_within an__law_within : Option Addr} {sl__law_within : Array (Option Value)} {oc__law_within kV__law_within dc__law_within pm__law_within cd__law_within ct__law_within : Value} {f__law_converts : Addr} {od__law_converts an__law_converts : Option Addr} {sl__law_converts : Array (Option Value)} {oc__law_converts kV__law_converts dc__law_converts pm__law_converts cd__law_converts ct__law_converts : Value} {f_plain : Addr} {od_plain an_plain : Option Addr} {sl_plain : Array (Option Value)} {oc_plain kV_plain dc_plain pm_plain cd_plain ct_plain : Value} {f__law_plain : Addr} {od__law_plain an__law_plain : Option Addr} {sl__law_plain : Array (Option Value)} {oc__law_plain kV__law_plain dc__law_plain pm__law_plain cd__law_plain ct__law_plain : Value} {f_are_alike : Addr} {od_are_alike an_are_alike : Option Addr} {sl_are_alike : Array (Option Value)} {oc_are_alike kV_are_alike dc_are_alike pm_are_alike cd_are_alike ct_are_alike : Value} {f_law : Addr} {od_law an_law : Option Addr} {sl_law : Array (Option Value)} {oc_law kV_law dc_law pm_law cd_law ct_law : Value}
    (z_abs : PySem.W.nsIn K mainGlobals "abs" = some none)
    (z_bool : PySem.W.nsIn K mainGlobals "bool" = some none)
    (z_int : PySem.W.nsIn K mainGlobals "int" = some none)
    (z_isinstance : PySem.W.nsIn K mainGlobals "isinstance" = some none)
    (z_len : PySem.W.nsIn K mainGlobals "len" = some none)
    (z_list : PySem.W.nsIn K mainGlobals "list" = some none)
    (z_range : PySem.W.nsIn K mainGlobals "range" = some none)
    (z_tuple : PySem.W.nsIn K mainGlobals "tuple" = some none)
    (a__law_cell : PySem.W.nsIn K mainGlobals "_law_cell" = some (some (.ref f__law_cell)))
    (l__law_cell : K.lookup f__law_cell = some ⟨oc__law_cell, od__law_cell, .func (PySem.W.fnOf "_law_cell" "_law_cell" (defArgs S__law_cell) (defBody S__law_cell) (defScope S__law_cell) .none kV__law_cell dc__law_cell pm__law_cell an__law_cell cd__law_cell ct__law_cell), sl__law_cell⟩)
    (c__law_cell : PySem.W.codeIn K cd__law_cell "_law_cell" = true)
    (k__law_cell : PySem.W.keepIn K (.ref f__law_cell) = true)
    (a__law_row : PySem.W.nsIn K mainGlobals "_law_row" = some (some (.ref f__law_row)))
    (l__law_row : K.lookup f__law_row = some ⟨oc__law_row, od__law_row, .func (PySem.W.fnOf "_law_row" "_law_row" (defArgs S__law_row) (defBody S__law_row) (defScope S__law_row) .none kV__law_row dc__law_row pm__law_row an__law_row cd__law_row ct__law_row), sl__law_row⟩)
    (c__law_row : PySem.W.codeIn K cd__law_row "_law_row" = true)
    (k__law_row : PySem.W.keepIn K (.ref f__law_row) = true)
    (a__law_draw : PySem.W.nsIn K mainGlobals "_law_draw" = some (some (.ref f__law_draw)))
    (l__law_draw : K.lookup f__law_draw = some ⟨oc__law_draw, od__law_draw, .func (PySem.W.fnOf "_law_draw" "_law_draw" (defArgs S__law_draw) (defBody S__law_draw) (defScope S__law_draw) .none kV__law_draw dc__law_draw pm__law_draw an__law_draw cd__law_draw ct__law_draw), sl__law_draw⟩)
    (c__law_draw : PySem.W.codeIn K cd__law_draw "_law_draw" = true)
    (k__law_draw : PySem.W.keepIn K (.ref f__law_draw) = true)
    (a__law_right : PySem.W.nsIn K mainGlobals "_law_right" = some (some (.ref f__law_right)))
    (l__law_right : K.lookup f__law_right = some ⟨oc__law_right, od__law_right, .func (PySem.W.fnOf "_law_right" "_law_right" (defArgs S__law_right) (defBody S__law_right) (defScope S__law_right) .none kV__law_right dc__law_right pm__law_right an__law_right cd__law_right ct__law_right), sl__law_right⟩)
    (c__law_right : PySem.W.codeIn K cd__law_right "_law_right" = true)
    (k__law_right : PySem.W.keepIn K (.ref f__law_right) = true)
    (a__law_rights : PySem.W.nsIn K mainGlobals "_law_rights" = some (some (.ref f__law_rights)))
    (l__law_rights : K.lookup f__law_rights = some ⟨oc__law_rights, od__law_rights, .func (PySem.W.fnOf "_law_rights" "_law_rights" (defArgs S__law_rights) (defBody S__law_rights) (defScope S__law_rights) .none kV__law_rights dc__law_rights pm__law_rights an__law_rights cd__law_rights ct__law_rights), sl__law_rights⟩)
    (c__law_rights : PySem.W.codeIn K cd__law_rights "_law_rights" = true)
    (k__law_rights : PySem.W.keepIn K (.ref f__law_rights) = true)
    (a__law_near : PySem.W.nsIn K mainGlobals "_law_near" = some (some (.ref f__law_near)))
    (l__law_near : K.lookup f__law_near = some ⟨oc__law_near, od__law_near, .func (PySem.W.fnOf "_law_near" "_law_near" (defArgs S__law_near) (defBody S__law_near) (defScope S__law_near) .none kV__law_near dc__law_near pm__law_near an__law_near cd__law_near ct__law_near), sl__law_near⟩)
    (c__law_near : PySem.W.codeIn K cd__law_near "_law_near" = true)
    (k__law_near : PySem.W.keepIn K (.ref f__law_near) = true)
    (a__find : PySem.W.nsIn K mainGlobals "_find" = some (some (.ref f__find)))
    (l__find : K.lookup f__find = some ⟨oc__find, od__find, .func (PySem.W.fnOf "_find" "_find" (defArgs S__find) (defBody S__find) (defScope S__find) .none kV__find dc__find pm__find an__find cd__find ct__find), sl__find⟩)
    (c__find : PySem.W.codeIn K cd__find "_find" = true)
    (k__find : PySem.W.keepIn K (.ref f__find) = true)
    (a_converts : PySem.W.nsIn K mainGlobals "converts" = some (some (.ref f_converts)))
    (l_converts : K.lookup f_converts = some ⟨oc_converts, od_converts, .func (PySem.W.fnOf "converts" "converts" (defArgs S_converts) (defBody S_converts) (defScope S_converts) .none kV_converts dc_converts pm_converts an_converts cd_converts ct_converts), sl_converts⟩)
    (c_converts : PySem.W.codeIn K cd_converts "converts" = true)
    (k_converts : PySem.W.keepIn K (.ref f_converts) = true)
    (a__law_is : PySem.W.nsIn K mainGlobals "_law_is" = some (some (.ref f__law_is)))
    (l__law_is : K.lookup f__law_is = some ⟨oc__law_is, od__law_is, .func (PySem.W.fnOf "_law_is" "_law_is" (defArgs S__law_is) (defBody S__law_is) (defScope S__law_is) .none kV__law_is dc__law_is pm__law_is an__law_is cd__law_is ct__law_is), sl__law_is⟩)
    (c__law_is : PySem.W.codeIn K cd__law_is "_law_is" = true)
    (k__law_is : PySem.W.keepIn K (.ref f__law_is) = true)
    (a__law_within : PySem.W.nsIn K mainGlobals "_law_within" = some (some (.ref f__law_within)))
    (l__law_within : K.lookup f__law_within = some ⟨oc__law_within, od__law_within, .func (PySem.W.fnOf "_law_within" "_law_within" (defArgs S__law_within) (defBody S__law_within) (defScope S__law_within) .none kV__law_within dc__law_within pm__law_within an__law_within cd__law_within ct__law_within), sl__law_within⟩)
    (c__law_within : PySem.W.codeIn K cd__law_within "_law_within" = true)
    (k__law_within : PySem.W.keepIn K (.ref f__law_within) = true)
    (a__law_converts : PySem.W.nsIn K mainGlobals "_law_converts" = some (some (.ref f__law_converts)))
    (l__law_converts : K.lookup f__law_converts = some ⟨oc__law_converts, od__law_converts, .func (PySem.W.fnOf "_law_converts" "_law_converts" (defArgs S__law_converts) (defBody S__law_converts) (defScope S__law_converts) .none kV__law_converts dc__law_converts pm__law_converts an__law_converts cd__law_converts ct__law_converts), sl__law_converts⟩)
    (c__law_converts : PySem.W.codeIn K cd__law_converts "_law_converts" = true)
    (k__law_converts : PySem.W.keepIn K (.ref f__law_converts) = true)
    (a_plain : PySem.W.nsIn K mainGlobals "plain" = some (some (.ref f_plain)))
    (l_plain : K.lookup f_plain = some ⟨oc_plain, od_plain, .func (PySem.W.fnOf "plain" "plain" (defArgs S_plain) (defBody S_plain) (defScope S_plain) .none kV_plain dc_plain pm_plain an_plain cd_plain ct_plain), sl_plain⟩)
    (c_plain : PySem.W.codeIn K cd_plain "plain" = true)
    (k_plain : PySem.W.keepIn K (.ref f_plain) = true)
    (a__law_plain : PySem.W.nsIn K mainGlobals "_law_plain" = some (some (.ref f__law_plain)))
    (l__law_plain : K.lookup f__law_plain = some ⟨oc__law_plain, od__law_plain, .func (PySem.W.fnOf "_law_plain" "_law_plain" (defArgs S__law_plain) (defBody S__law_plain) (defScope S__law_plain) .none kV__law_plain dc__law_plain pm__law_plain an__law_plain cd__law_plain ct__law_plain), sl__law_plain⟩)
    (c__law_plain : PySem.W.codeIn K cd__law_plain "_law_plain" = true)
    (k__law_plain : PySem.W.keepIn K (.ref f__law_plain) = true)
    (a_are_alike : PySem.W.nsIn K mainGlobals "are_alike" = some (some (.ref f_are_alike)))
    (l_are_alike : K.lookup f_are_alike = some ⟨oc_are_alike, od_are_alike, .func (PySem.W.fnOf "are_alike" "are_alike" (defArgs S_are_alike) (defBody S_are_alike) (defScope S_are_alike) .none kV_are_alike dc_are_alike pm_are_alike an_are_alike cd_are_alike ct_are_alike), sl_are_alike⟩)
    (c_are_alike : PySem.W.codeIn K cd_are_alike "are_alike" = true)
    (k_are_alike : PySem.W.keepIn K (.ref f_are_alike) = true)
    (a_law : PySem.W.nsIn K mainGlobals "law" = some (some (.ref f_law)))
    (l_law : K.lookup f_law = some ⟨oc_law, od_law, .func (PySem.W.fnOf "law" "law" (defArgs S_law) (defBody S_law) (defScope S_law) .none kV_law dc_law pm_law an_law cd_law ct_law), sl_law⟩)
    (c_law : PySem.W.codeIn K cd_law "law" = true)
    (k_law : PySem.W.keepIn K (.ref f_law) = true)
    (hf : ∀ ns : List Int, ns.length ≤ 63 → (∀ z ∈ ns, Builtin.Int.intBits z ≤ 1048576) → ∃ o, Ir.law.fn [some (.fz (lkI ns))] = .ok (.fz (.bl true)) o) :
    ∃ fd : FuncData, (∀ (s : Shared) (v : Value), BindsTo s fd ⟨[v], []⟩ [("_law_script", v)]) ∧ ∀ base : Heap, K.In base → base.Ns mainGlobals mg → FnOk l.prog w K mg base (L2.CX l.prog w) 13 fa fd ["_law_script"] (spLaw K) := by
  have e := hfa.symm.trans (PySem.W.mg_of X G a_law)
  cases e
  letI : Prw := ⟨l.prog, w⟩
  have E : ∀ base, En K mg base := fun base => ⟨PySem.W.mg_none_of X G z_abs, PySem.W.mg_none_of X G z_bool, PySem.W.mg_none_of X G z_int, PySem.W.mg_none_of X G z_isinstance, PySem.W.mg_none_of X G z_len, PySem.W.mg_none_of X G z_list, PySem.W.mg_none_of X G z_range, PySem.W.mg_none_of X G z_tuple, ⟨f__law_cell, _, fun_mk (st := S__law_cell) l__law_cell c__law_cell k__law_cell, PySem.W.mg_of X G a__law_cell⟩, ⟨f__law_row, _, fun_mk (st := S__law_row) l__law_row c__law_row k__law_row, PySem.W.mg_of X G a__law_row⟩, ⟨f__law_draw, _, fun_mk (st := S__law_draw) l__law_draw c__law_draw k__law_draw, PySem.W.mg_of X G a__law_draw⟩, ⟨f__law_right, _, fun_mk (st := S__law_right) l__law_right c__law_right k__law_right, PySem.W.mg_of X G a__law_right⟩, ⟨f__law_rights, _, fun_mk (st := S__law_rights) l__law_rights c__law_rights k__law_rights, PySem.W.mg_of X G a__law_rights⟩, ⟨f__law_near, _, fun_mk (st := S__law_near) l__law_near c__law_near k__law_near, PySem.W.mg_of X G a__law_near⟩, ⟨f__find, _, fun_mk (st := S__find) l__find c__find k__find, PySem.W.mg_of X G a__find⟩, ⟨f_converts, _, fun_mk (st := S_converts) l_converts c_converts k_converts, PySem.W.mg_of X G a_converts⟩, ⟨f__law_is, _, fun_mk (st := S__law_is) l__law_is c__law_is k__law_is, PySem.W.mg_of X G a__law_is⟩, ⟨f__law_within, _, fun_mk (st := S__law_within) l__law_within c__law_within k__law_within, PySem.W.mg_of X G a__law_within⟩, ⟨f__law_converts, _, fun_mk (st := S__law_converts) l__law_converts c__law_converts k__law_converts, PySem.W.mg_of X G a__law_converts⟩, ⟨f_plain, _, fun_mk (st := S_plain) l_plain c_plain k_plain, PySem.W.mg_of X G a_plain⟩, ⟨f__law_plain, _, fun_mk (st := S__law_plain) l__law_plain c__law_plain k__law_plain, PySem.W.mg_of X G a__law_plain⟩, ⟨f_are_alike, _, fun_mk (st := S_are_alike) l_are_alike c_are_alike k_are_alike, PySem.W.mg_of X G a_are_alike⟩⟩
  refine ⟨PySem.W.fnOf "law" "law" (defArgs S_law) (defBody S_law) (defScope S_law) .none kV_law dc_law pm_law an_law cd_law ct_law, fun s v => .of_eq rfl, fun base _ _ => FnOk.imp (fnk_law (E base) (fun_mk (st := S_law) l_law c_law k_law)) fun vs H Q Ex h => law_end h hf⟩

end K03
end

section
/-! Rx, laws: how the evaluator goes. -/
namespace Rx
open PySem
@[simp] theorem Ev.at_zero (o : Slot) (e : Ev) : Ev.at (o :: e) 0 = o := rfl
@[simp] theorem Ev.at_succ (o : Slot) (e : Ev) (n : Nat) : Ev.at (o :: e) (n + 1) = Ev.at e n := rfl
@[simp] theorem R.bind_ok {α β : Type} (a : α) (e : Ev) (f : α → Ev → R β) : (R.ok a e).bind f = f a e := rfl
@[simp] theorem R.bind_bad {α β : Type} (f : α → Ev → R β) : (R.bad : R α).bind f = .bad := rfl
@[simp] theorem M.lift_app {α : Type} (a : α) (e : Ev) : M.lift (some a) e = .ok a e := rfl
@[simp] theorem OT.view_fz (d : D) : OT.view (.fz d) = d := rfl
@[simp] theorem OT.view_lst (d : List OT) : OT.view (.lst d) = .lst (OT.views d) := rfl
@[simp] theorem OT.views_nil : OT.views [] = [] := rfl
@[simp] theorem OT.views_cons (d : OT) (ds : List OT) : OT.views (d :: ds) = d.view :: OT.views ds := rfl
@[simp] theorem OT.flat_fz (d : D) : OT.flat (.fz d) = some d := rfl
@[simp] theorem OT.flat_lst (d : List OT) : OT.flat (.lst d) = (allFz d).map .lst := rfl
@[simp] theorem OT.flat_ml (d : List D) : OT.flat (.lst (d.map .fz)) = some (.lst d) := by simp [-R.bind]
@[simp] theorem allFz_nil : allFz [] = some [] := rfl
@[simp] theorem allFz_cons (d : D) (ds : List OT) : allFz (.fz d :: ds) = (allFz ds).map (d :: ·) := rfl
@[simp] theorem semV (j : Nat) : (sem (.var j)).1 = M.read j := rfl
@[simp] theorem semMv (j : Nat) : (sem (.mv j)).1 = M.move j := rfl
@[simp] theorem semC (c : D) : (sem (.con c)).1 = M.pure (.fz c) := rfl
@[simp] theorem semG (x : Str) (c : D) : (sem (.glo x c)).1 = M.pure (.fz c) := rfl
@[simp] theorem semTup (es : List IE) : (sem (.tup es)).1 = M.bind (evs es) fun ts => M.pure (.fz (.tup (OT.views ts))) := rfl
@[simp] theorem semLst (es : List IE) : (sem (.lst es)).1 = M.bind (evs es) fun ts => M.pure (.lst ts) := rfl
@[simp] theorem semD : (sem .dnew).1 = M.pure (.dic []) := rfl
@[simp] theorem semFz (a : IE) : (sem (.fzz a)).1 = M.bind (sem a).1 fun t => M.pure (.fz t.view) := rfl
@[simp] theorem semB (o : Operator) (g : D → D → Option OT) (a b : IE) : (sem (.bop o g a b)).1 = op2M a b (sem a).1 (sem b).1 fun x y _ => M.lift (g x y) := rfl
@[simp] theorem semCmp (o : CmpOp) (g : D → D → Option Bool) (a b : IE) : (sem (.cmp o g a b)).1 = op2M a b (sem a).1 (sem b).1 fun x y _ => blM (g x y) := rfl
@[simp] theorem tstCmp (o : CmpOp) (g : D → D → Option Bool) (a b : IE) : (sem (.cmp o g a b)).2 = op2M a b (sem a).1 (sem b).1 fun x y _ => M.lift (g x y) := rfl
@[simp] theorem semU (o : UnaryOp) (g : D → Option D) (a : IE) : (sem (.uop o g a)).1 = uopM g a (sem a).1 := rfl
@[simp] theorem semIx (a b : IE) : (sem (.ix a b)).1 = op2M a b (sem a).1 (sem b).1 fun x y _ => M.bind (M.lift (ixK x y)) fun d => M.pure (.fz d) := rfl
@[simp] theorem semSl (a : IE) (lo hi : Option IE) : (sem (.sl a lo hi)).1 = M.bind (opd a (sem a).1) fun ra => M.bind (evOpt lo) fun l => M.bind (evOpt hi) fun h => M.bind (fin a ra) fun x => M.lift (slD x l h) := rfl
@[simp] theorem semIf (c a b : IE) : (sem (.ife c a b)).1 = M.bind (sem c).2 fun k => pickB k (sem a).1 (sem b).1 := by
  show (M.bind (sem c).2 fun k => (match k with
    | true => (sem a).1
    | false => (sem b).1)) = _
  congr 1; funext b; cases b <;> rfl
@[simp] theorem pickB_app {α β : Type} (b : Bool) (f g : α → β) (e : α) : pickB b f g e = pickB b (f e) (g e) := by cases b <;> rfl
theorem pb_bind {α β : Type} (b : Bool) (x y : R α) (f : α → Ev → R β) : (pickB b x y).bind f = pickB b (x.bind f) (y.bind f) := by cases b <;> rfl
theorem pb_st {α : Type} (b : Bool) (x y : R α) (f : α → Ev → SR) : (pickB b x y).st f = pickB b (x.st f) (y.st f) := by cases b <;> rfl
theorem pb_sq (b : Bool) (x y : SR) (f : Ev → SR) : (pickB b x y).sq f = pickB b (x.sq f) (y.sq f) := by cases b <;> rfl
theorem pb_lp (b : Bool) (x y : SR) (f : Ev → SR) : (pickB b x y).lp f = pickB b (x.lp f) (y.lp f) := by cases b <;> rfl
theorem pb_end (ms : List Bool) (b : Bool) (x y : SR) : endOf ms (pickB b x y) = pickB b (endOf ms x) (endOf ms y) := by cases b <;> rfl
theorem if_bind {α β : Type} (p : Prop) [Decidable p] (x y : R α) (f : α → Ev → R β) : (if p then x else y).bind f = if p then x.bind f else y.bind f := by split <;> rfl
theorem if_st {α : Type} (p : Prop) [Decidable p] (x y : R α) (f : α → Ev → SR) : (if p then x else y).st f = if p then x.st f else y.st f := by split <;> rfl
theorem if_sq (p : Prop) [Decidable p] (x y : SR) (f : Ev → SR) : (if p then x else y).sq f = if p then x.sq f else y.sq f := by split <;> rfl
theorem if_lp (p : Prop) [Decidable p] (x y : SR) (f : Ev → SR) : (if p then x else y).lp f = if p then x.lp f else y.lp f := by split <;> rfl
theorem if_end (p : Prop) [Decidable p] (ms : List Bool) (x y : SR) : endOf ms (if p then x else y) = if p then endOf ms x else endOf ms y := by split <;> rfl
@[simp] theorem semCall (x : Str) (ms : List Bool) (f : Fn) (es : List IE) : (sem (.call x ms f es)).1 = M.bind (evArgs ms es) fun as => callF f as := rfl
@[simp] theorem semBi (x : Str) (g : List D → Option OT) (es : List IE) : (sem (.bi x g es)).1 = M.bind (evOps es) fun rs => M.bind (fins es rs) fun ds => M.lift (g ds) := rfl
@[simp] theorem semMe (m : Str) (g : D → List D → Option OT) (a : IE) (es : List IE) : (sem (.me m g a es)).1 = M.bind (opd a (sem a).1) fun ra => M.bind (evOps es) fun rs => M.bind (fin a ra) fun x => M.bind (fins es rs) fun ds => M.lift (g x ds) := rfl
@[simp] theorem semNt (x : IE) : (sem (.nt x)).1 = M.bind (truthM x (sem x).1) fun b => M.pure (.fz (.bl (!b))) := rfl
@[simp] theorem tstNt (x : IE) : (sem (.nt x)).2 = M.bind (sem x).2 fun b => M.pure (!b) := rfl
@[simp] theorem semAnd (es : List IE) : (sem (.und es)).1 = evAnd es := rfl
@[simp] theorem tstAnd' (es : List IE) : (sem (.und es)).2 = tstAnd es := rfl
@[simp] theorem semOr (es : List IE) : (sem (.orr es)).1 = evOr es := rfl
@[simp] theorem tstOr' (es : List IE) : (sem (.orr es)).2 = tstOr es := rfl
@[simp] theorem semLc (tg : TGt) (k : ITK) (its : List IE) (c : Option IE) (x : IE) (own : List Nat) : (sem (.lc tg k its c x own)).1 = M.bind (evs its) fun ts => M.bind (M.lift (itemsOf k (OT.views ts))) fun xs => lcRun own tg (semOpt c) (sem x).1 xs := rfl
@[simp] theorem tstCall (x : Str) (ms : List Bool) (f : Fn) (es : List IE) : (sem (.call x ms f es)).2 = truthM (.call x ms f es) (sem (.call x ms f es)).1 := rfl
@[simp] theorem tstBi (x : Str) (g : List D → Option OT) (es : List IE) : (sem (.bi x g es)).2 = truthM (.bi x g es) (sem (.bi x g es)).1 := rfl
@[simp] theorem tstMe (m : Str) (g : D → List D → Option OT) (a : IE) (es : List IE) : (sem (.me m g a es)).2 = truthM (.me m g a es) (sem (.me m g a es)).1 := rfl
@[simp] theorem tstV (j : Nat) : (sem (.var j)).2 = truthM (.var j) (sem (.var j)).1 := rfl
@[simp] theorem tstIx (a b : IE) : (sem (.ix a b)).2 = truthM (.ix a b) (sem (.ix a b)).1 := rfl
@[simp] theorem tstB (o : Operator) (g : D → D → Option OT) (a b : IE) : (sem (.bop o g a b)).2 = truthM (.bop o g a b) (sem (.bop o g a b)).1 := rfl
@[simp] theorem evs_nil : evs [] = M.pure [] := rfl
@[simp] theorem evs_cons (x : IE) (r : List IE) : evs (x :: r) = M.bind (sem x).1 fun t => M.bind (evs r) fun ts => M.pure (t :: ts) := rfl
@[simp] theorem evOps_nil : evOps [] = M.pure [] := rfl
@[simp] theorem evOps_cons (x : IE) (r : List IE) : evOps (x :: r) = M.bind (opd x (sem x).1) fun t => M.bind (evOps r) fun ts => M.pure (t :: ts) := rfl
@[simp] theorem evArgs_nil (ms : List Bool) : evArgs ms [] = M.pure [] := by cases ms <;> rfl
@[simp] theorem evArgs_cons (m : Bool) (ms : List Bool) (x : IE) (r : List IE) : evArgs (m :: ms) (x :: r) = M.bind (argOf m x (sem x).1) fun a => M.bind (evArgs ms r) fun as => M.pure (a :: as) := rfl
@[simp] theorem evOpt_none : evOpt none = M.pure none := rfl
@[simp] theorem evOpt_some (x : IE) : evOpt (some x) = M.bind (sem x).1 fun t => intK t.view := rfl
@[simp] theorem evAnd_one (x : IE) : evAnd [x] = (sem x).1 := rfl
@[simp] theorem evAnd_cons (x y : IE) (r : List IE) : evAnd (x :: y :: r) = M.bind (sem x).1 fun t => andK t.view (evAnd (y :: r)) := rfl
@[simp] theorem evOr_one (x : IE) : evOr [x] = (sem x).1 := rfl
@[simp] theorem evOr_cons (x y : IE) (r : List IE) : evOr (x :: y :: r) = M.bind (sem x).1 fun t => orK t.view (evOr (y :: r)) := rfl
@[simp] theorem tstAnd_nil : tstAnd [] = M.pure true := rfl
@[simp] theorem tstAnd_cons (x : IE) (r : List IE) : tstAnd (x :: r) = M.bind (sem x).2 fun b => pickB b (tstAnd r) (M.pure false) := by
  show (M.bind (sem x).2 fun b => (match b with
    | true => tstAnd r
    | false => M.pure false)) = _
  congr 1; funext b; cases b <;> rfl
@[simp] theorem tstOr_nil : tstOr [] = M.pure false := rfl
@[simp] theorem tstOr_cons (x : IE) (r : List IE) : tstOr (x :: r) = M.bind (sem x).2 fun b => pickB b (M.pure true) (tstOr r) := by
  show (M.bind (sem x).2 fun b => (match b with
    | false => tstOr r
    | true => M.pure true)) = _
  congr 1; funext b; cases b <;> rfl
@[simp] theorem semOpt_none : semOpt none = M.pure true := rfl
@[simp] theorem semOpt_some (x : IE) : semOpt (some x) = (sem x).2 := rfl
@[simp] theorem andK_bl (b : Bool) (m : M OT) : andK (.bl b) m = pickB b m (M.pure (.fz (.bl false))) := by cases b <;> rfl
@[simp] theorem orK_bl (b : Bool) (m : M OT) : orK (.bl b) m = pickB b (M.pure (.fz (.bl true))) m := by cases b <;> rfl
@[simp] theorem andK_t (m : M OT) : andK (.bl true) m = m := rfl
@[simp] theorem andK_f (m : M OT) : andK (.bl false) m = M.pure (.fz (.bl false)) := rfl
@[simp] theorem orK_t (m : M OT) : orK (.bl true) m = M.pure (.fz (.bl true)) := rfl
@[simp] theorem orK_f (m : M OT) : orK (.bl false) m = m := rfl
@[simp] theorem intK_int (i : Int) : intK (.int i) = M.pure (some i) := rfl
/-! ### statements -/
@[simp] theorem run_nil (e : Ev) : run [] e = .nx e := rfl
@[simp] theorem run_cons (s : IS) (ss : List IS) (e : Ev) : run (s :: ss) e = (run1 s e).sq (run ss) := rfl
@[simp] theorem run_asg (j : Nat) (x : IE) (e : Ev) : run1 (.asg j x) e = ((sem x).1 e).st fun t e1 => .nx (e1.set j (some t)) := rfl
@[simp] theorem run_asgT (tg : TGt) (x : IE) (e : Ev) : run1 (.asgT tg x) e = ((sem x).1 e).st fun t e1 => ofO (bindT tg t.view e1) := rfl
@[simp] theorem run_sto (j : Nat) (ss : List Wy) (k x : IE) (e : Ev) : run1 (.sto j ss k x) e = ((sem x).1 e).st fun t e1 => ((M.bind (M.get j) fun _ => M.bind (opd k (sem k).1) fun r => fin k r) e1).st fun d e2 => ofO (updAt j ss (stoO d t) e2) := rfl
@[simp] theorem run_app (j : Nat) (ss : List Wy) (x : IE) (e : Ev) : run1 (.app j ss x) e = lstAt j ss e (((sem x).1 e).st fun t e1 => ofO (updAt j ss (appO t) e1)) := rfl
@[simp] theorem run_ext (j : Nat) (ss : List Wy) (x : IE) (e : Ev) : run1 (.ext j ss x) e = lstAt j ss e (((sem x).1 e).st fun t e1 => extK t.view fun ds => ofO (updAt j ss (extO ds) e1)) := rfl
@[simp] theorem run_ex (x : IE) (e : Ev) : run1 (.ex x) e = ((sem x).1 e).st fun _ e1 => .nx e1 := rfl
@[simp] theorem run_ret (x : IE) (e : Ev) : run1 (.ret x) e = ((sem x).1 e).st fun t e1 => .ret t e1 := rfl
@[simp] theorem run_retN (e : Ev) : run1 .retN e = .ret (.fz .non) e := rfl
@[simp] theorem run_iff (c : IE) (a b : List IS) (e : Ev) : run1 (.iff c a b) e = ((sem c).2 e).st fun k e1 => pickB k (run a e1) (run b e1) := rfl
@[simp] theorem run_for (tg : TGt) (k : ITK) (its : List IE) (body : List IS) (e : Ev) : run1 (.for_ tg k its body) e = ((M.bind (evs its) fun ts => M.lift (itemsOf k (OT.views ts))) e).st fun xs e1 => forGo tg (run body) xs e1 := rfl
@[simp] theorem run_whl (n : Nat) (c : IE) (body : List IS) (e : Ev) : run1 (.whl n c body) e = whGo (sem c).2 (run body) n e := rfl
@[simp] theorem run_brk (e : Ev) : run1 .brk e = .brk e := rfl
@[simp] theorem run_cont (e : Ev) : run1 .cont e = .ct e := rfl
@[simp] theorem run_pass (e : Ev) : run1 .pass e = .nx e := rfl
@[simp] theorem bindT_nm (j : Nat) (d : D) (e : Ev) : bindT (.nm j) d e = some (e.set j (some (.fz d))) := rfl
@[simp] theorem pickB_dec {α : Type} {p : Prop} [Decidable p] (x y : α) : pickB (decide p) x y = if p then x else y := by
  by_cases h : p <;> simp [-R.bind, h]
@[simp] theorem pickB_not {α : Type} (b : Bool) (x y : α) : pickB (!b) x y = pickB b y x := by cases b <;> rfl
@[simp] theorem pickB_beqI {α : Type} (a b : Int) (x y : α) : pickB (a == b) x y = if a = b then x else y := by
  by_cases h : a = b
  · subst h; simp [-R.bind]
  · rw [if_neg h, show (a == b) = false by simpa using h]; rfl
@[simp] theorem pickB_beqS {α : Type} (a b : List Nat) (x y : α) : pickB (a == b) x y = if a = b then x else y := by
  by_cases h : a = b
  · subst h; simp [-R.bind]
  · rw [if_neg h, show (a == b) = false by simpa using h]; rfl
theorem plc_nat (n k : Nat) : plc n (k : Int) = if k < n then some k else none := rfl
@[simp] theorem getI_nat' {α : Type} (xs : List α) (k : Nat) : getI xs (k : Int) = xs[k]? := by
  unfold getI
  rw [plc_nat]
  by_cases h : k < xs.length
  · rw [if_pos h]
  · rw [if_neg h, List.getElem?_eq_none (by omega)]
@[simp] theorem getI_0 {α : Type} (xs : List α) : getI xs 0 = xs[0]? := getI_nat' xs 0
@[simp] theorem getI_1 {α : Type} (xs : List α) : getI xs 1 = xs[1]? := getI_nat' xs 1
@[simp] theorem getI_2 {α : Type} (xs : List α) : getI xs 2 = xs[2]? := getI_nat' xs 2
@[simp] theorem getI_3 {α : Type} (xs : List α) : getI xs 3 = xs[3]? := getI_nat' xs 3
@[simp] theorem getI_4 {α : Type} (xs : List α) : getI xs 4 = xs[4]? := getI_nat' xs 4
@[simp] theorem getI_5 {α : Type} (xs : List α) : getI xs 5 = xs[5]? := getI_nat' xs 5
@[simp] theorem getI_6 {α : Type} (xs : List α) : getI xs 6 = xs[6]? := getI_nat' xs 6
@[simp] theorem getI_7 {α : Type} (xs : List α) : getI xs 7 = xs[7]? := getI_nat' xs 7
@[simp] theorem ixK_lst (xs : List D) (i : Int) : ixK (.lst xs) (.int i) = getI xs i := rfl
@[simp] theorem ixK_lk (xs : List D) (i : Int) : ixK (.lk xs) (.int i) = getI xs i := rfl
@[simp] theorem ixK_tup (xs : List D) (i : Int) : ixK (.tup xs) (.int i) = getI xs i := rfl
@[simp] theorem ixK_str (xs : List Nat) (i : Int) : ixK (.str xs) (.int i) = (getI xs i).map fun c => .str [c] := rfl
@[simp] theorem stoO_1 (a b : OT) (x : OT) : stoO (.int 1) x (.lst [a, b]) = some (.lst [a, x]) := rfl
theorem mulD_l {i j : Int} (h : i.natAbs < 18446744073709551616) : mulD (.int i) (.int j) = some (.fz (.int (i * j))) := by
  exact if_pos (.inl h)
theorem mulD_r {i j : Int} (h : j.natAbs < 18446744073709551616) : mulD (.int i) (.int j) = some (.fz (.int (i * j))) := by
  exact if_pos (.inr h)
theorem fdivD_ok {i j : Int} (h : 0 < j ∧ j < 1073741824) : fdivD (.int i) (.int j) = some (.fz (.int (i / j))) := by
  exact if_pos h
@[simp] theorem inD_tup (a : D) (xs : List D) : inD a (.tup xs) = inSeq a xs := rfl
@[simp] theorem inD_lst (a : D) (xs : List D) : inD a (.lst xs) = inSeq a xs := rfl
@[simp] theorem inD_str (c : Nat) (y : List Nat) : inD (.str [c]) (.str y) = some (decide (c ∈ y)) := rfl
@[simp] theorem ninD_eq (a b : D) : ninD a b = (inD a b).map (!·) := rfl
theorem inSeq_ok {a : D} {xs : List D} (h1 : D.eqok 60 a = true) (h2 : D.eqoks 60 xs = true) : inSeq a xs = some (xs.any fun z => D.eqv z a) := if_pos ⟨h1, h2⟩
theorem eqD_ok {a b : D} (h1 : D.eqok 60 a = true) (h2 : D.eqok 60 b = true) : eqD a b = some (D.eqv a b) := if_pos ⟨h1, h2⟩
theorem neD_ok {a b : D} (h1 : D.eqok 60 a = true) (h2 : D.eqok 60 b = true) : neD a b = some (!D.eqv a b) := if_pos ⟨h1, h2⟩
@[simp] theorem eqD_bl (a b : Bool) : eqD (.bl a) (.bl b) = some (a == b) := rfl
@[simp] theorem eqD_int (a b : Int) : eqD (.int a) (.int b) = some (a == b) := rfl
@[simp] theorem eqD_str (a b : List Nat) : eqD (.str a) (.str b) = some (a == b) := rfl
@[simp] theorem neD_bl (a b : Bool) : neD (.bl a) (.bl b) = some (!(a == b)) := rfl
@[simp] theorem neD_int (a b : Int) : neD (.int a) (.int b) = some (!(a == b)) := rfl
@[simp] theorem neD_str (a b : List Nat) : neD (.str a) (.str b) = some (!(a == b)) := rfl
@[simp] theorem eqv_int (a b : Int) : D.eqv (.int a) (.int b) = (a == b) := rfl
@[simp] theorem eqv_str (a b : List Nat) : D.eqv (.str a) (.str b) = (a == b) := rfl
@[simp] theorem eqv_bl (a b : Bool) : D.eqv (.bl a) (.bl b) = (a == b) := rfl
@[simp] theorem isD_bl (a b : Bool) : isD (.bl a) (.bl b) = some (a == b) := rfl
@[simp] theorem nisD_bl (a b : Bool) : nisD (.bl a) (.bl b) = some (!(a == b)) := rfl
/-! ### loops -/
/-- behind a turn: I; a break goes on with k -/
def Lp (P : SR → Prop) (k : Ev → SR) (I : Ev → Prop) : SR → Prop
  | .nx e => I e
  | .ct e => I e
  | .brk e => P (k e)
  | .ret t e => P (.ret t e)
  | .exn x e => P (.exn x e)
  | .bad => False
@[simp] theorem Lp_nx (P : SR → Prop) (k : Ev → SR) (I : Ev → Prop) (e : Ev) : Lp P k I (.nx e) = I e := rfl
@[simp] theorem Lp_ct (P : SR → Prop) (k : Ev → SR) (I : Ev → Prop) (e : Ev) : Lp P k I (.ct e) = I e := rfl
@[simp] theorem Lp_brk (P : SR → Prop) (k : Ev → SR) (I : Ev → Prop) (e : Ev) : Lp P k I (.brk e) = P (k e) := rfl
@[simp] theorem Lp_ret (P : SR → Prop) (k : Ev → SR) (I : Ev → Prop) (t : OT) (e : Ev) : Lp P k I (.ret t e) = P (.ret t e) := rfl
theorem forGo_nil (tg : TGt) (body : Ev → SR) (e : Ev) : forGo tg body [] e = .nx e := rfl
theorem forGo_nm (j : Nat) (body : Ev → SR) (d : D) (ds : List D) (e : Ev) : forGo (.nm j) body (d :: ds) e = (body (e.set j (some (.fz d)))).lp (forGo (.nm j) body ds) := rfl
theorem forGo_rule {P : SR → Prop} {k : Ev → SR} {tg : TGt} {body : Ev → SR} {xs : List D} {e : Ev} (I : Nat → Ev → Prop) (h0 : I 0 e)
    (step : ∀ i d e, xs[i]? = some d → I i e → ∃ e1, bindT tg d e = some e1 ∧ Lp P k (I (i + 1)) (body e1)) (fin : ∀ e', I xs.length e' → P (k e')) : P ((forGo tg body xs e).sq k) := by
  have go : ∀ (ys : List D) (i : Nat) (e : Ev), xs.drop i = ys → i ≤ xs.length → I i e → P ((forGo tg body ys e).sq k) := by
    intro ys
    induction ys with
    | nil =>
      intro i e hd hi h
      have : i = xs.length := by have := congrArg List.length hd; rw [List.length_drop] at this; simp [-R.bind] at this; omega
      subst this
      exact fin e h
    | cons d ds ih =>
      intro i e hd hi h
      have hx : xs[i]? = some d := by
        have := congrArg (fun l => l[0]?) hd
        simpa [-R.bind, List.getElem?_drop] using this
      have hlt : i < xs.length := (List.getElem?_eq_some_iff.mp hx).1
      obtain ⟨e1, h1, h2⟩ := step i d e hx h
      have hd2 : xs.drop (i + 1) = ds := by
        have := congrArg List.tail hd
        rw [List.tail_drop] at this
        simpa [-R.bind] using this
      have e2 : forGo tg body (d :: ds) e = (body e1).lp (forGo tg body ds) := by
        show (match bindT tg d e with | none => _ | some e1 => _) = _
        rw [h1]
      rw [e2]
      cases hb : body e1 with
      | bad => rw [hb] at h2; exact h2.elim
      | nx e3 => rw [hb] at h2; exact ih (i + 1) e3 hd2 hlt h2
      | ct e3 => rw [hb] at h2; exact ih (i + 1) e3 hd2 hlt h2
      | brk e3 => rw [hb] at h2; exact h2
      | ret t e3 => rw [hb] at h2; exact h2
      | exn t e3 => rw [hb] at h2; exact h2
  exact go xs 0 e rfl (Nat.zero_le _) h0
@[simp] theorem sq_nil (r : SR) : r.sq (run []) = r := by cases r <;> rfl
@[simp] theorem sq_sq (r : SR) (k k' : Ev → SR) : (r.sq k).sq k' = r.sq fun e => (k e).sq k' := by cases r <;> rfl
theorem forGo_rule0 {P : SR → Prop} {tg : TGt} {body : Ev → SR} {xs : List D} {e : Ev} (I : Nat → Ev → Prop) (h0 : I 0 e)
    (step : ∀ i d e, xs[i]? = some d → I i e → ∃ e1, bindT tg d e = some e1 ∧ Lp P .nx (I (i + 1)) (body e1)) (fin : ∀ e', I xs.length e' → P (.nx e')) : P (forGo tg body xs e) := by
  have := forGo_rule (P := P) (k := run []) I h0 step fin
  rwa [sq_nil] at this
@[simp] theorem bind_bind {α β γ : Type} (r : R α) (f : α → Ev → R β) (g : β → Ev → R γ) : (r.bind f).bind g = r.bind fun a e => (f a e).bind g := by cases r <;> rfl
@[simp] theorem bind_st {α β : Type} (r : R α) (f : α → Ev → R β) (g : β → Ev → SR) : (r.bind f).st g = r.st fun a e => (f a e).st g := by cases r <;> rfl
theorem st_sq {α : Type} (r : R α) (f : α → Ev → SR) (k : Ev → SR) : (r.st f).sq k = r.st fun a e => (f a e).sq k := by cases r <;> rfl
/-! ### comprehensions over one name -/
theorem set_set_at (e : Ev) (j : Nat) (x : Slot) : (e.set j x).set j (e.at j) = e := by
  rw [List.set_set]
  apply List.ext_getElem?
  intro i
  rw [List.getElem?_set]
  by_cases h : j = i
  · subst h
    rw [if_pos rfl]
    by_cases h2 : j < e.length
    · rw [if_pos h2]; unfold Ev.at; rw [List.getD_eq_getElem?_getD, List.getElem?_eq_getElem h2]; rfl
    · rw [if_neg h2, List.getElem?_eq_none (by omega)]
  · rw [if_neg h]
theorem lc1_go {j : Nat} {mc : M Bool} {me : M OT} (I : Nat → List D → Ev → Prop) (xs : List D)
    (step : ∀ i d acc e, xs[i]? = some d → I i acc e → ∃ b e2, mc (e.set j (some (.fz d))) = .ok b e2 ∧ (b = true → ∃ t e3, me e2 = .ok t e3 ∧ I (i + 1) (acc ++ [t.view]) e3) ∧ (b = false → I (i + 1) acc e2)) :
    ∀ (ys : List D) (i : Nat) (acc : List D) (e : Ev), xs.drop i = ys → i ≤ xs.length → I i acc e → ∃ acc' e', lcGo [j] (.nm j) mc me ys acc e = .ok acc' e' ∧ I xs.length acc' e' := by
  intro ys
  induction ys with
  | nil =>
    intro i acc e hd hi h
    have : i = xs.length := by have := congrArg List.length hd; rw [List.length_drop] at this; simp [-R.bind] at this; omega
    subst this
    exact ⟨acc, e, rfl, h⟩
  | cons d ds ih =>
    intro i acc e hd hi h
    have hx : xs[i]? = some d := by
      have := congrArg (fun l => l[0]?) hd
      simpa [-R.bind, List.getElem?_drop] using this
    have hlt : i < xs.length := (List.getElem?_eq_some_iff.mp hx).1
    have hd2 : xs.drop (i + 1) = ds := by
      have := congrArg List.tail hd
      rw [List.tail_drop] at this
      simpa [-R.bind] using this
    obtain ⟨b, e2, h1, h2, h3⟩ := step i d acc e hx h
    have e0 : (e.set j none).set j (some (.fz d)) = e.set j (some (OT.fz d)) := List.set_set ..
    have eq : lcGo [j] (.nm j) mc me (d :: ds) acc e = (noX (mc (e.set j (some (.fz d))))).bind fun b e2 => pickB b ((noX (me e2)).bind fun t e3 => lcGo [j] (.nm j) mc me ds (acc ++ [t.view]) e3) (lcGo [j] (.nm j) mc me ds acc e2) := by
      rw [← e0]; rfl
    rw [eq, h1]
    cases b with
    | true =>
      obtain ⟨t, e3, k1, k2⟩ := h2 rfl
      obtain ⟨acc', e', q1, q2⟩ := ih (i + 1) _ e3 hd2 hlt k2
      exact ⟨acc', e', by simp [-R.bind, k1, q1], q2⟩
    | false =>
      obtain ⟨acc', e', q1, q2⟩ := ih (i + 1) _ e2 hd2 hlt (h3 rfl)
      exact ⟨acc', e', by simp [-R.bind, q1], q2⟩
theorem lc1_ok {j : Nat} {mc : M Bool} {me : M OT} (I : Nat → List D → Ev → Prop) {xs : List D} {e : Ev} (own : ownOk e [j] = true) (h0 : I 0 [] e)
    (step : ∀ i d acc e, xs[i]? = some d → I i acc e → ∃ b e2, mc (e.set j (some (.fz d))) = .ok b e2 ∧ (b = true → ∃ t e3, me e2 = .ok t e3 ∧ I (i + 1) (acc ++ [t.view]) e3) ∧ (b = false → I (i + 1) acc e2)) :
    ∃ acc' e', lcRun [j] (.nm j) mc me xs e = .ok (.ml acc') (e'.set j (e.at j)) ∧ I xs.length acc' e' := by
  obtain ⟨acc', e', h1, h2⟩ := lc1_go (j := j) (mc := mc) (me := me) I xs step xs 0 [] e rfl (Nat.zero_le _) h0
  refine ⟨acc', e', ?_, h2⟩
  unfold lcRun
  rw [own]
  show (lcGo [j] (.nm j) mc me xs [] e).bind _ = _
  rw [h1]
  show R.ok _ ((e'.set j none).set j (e.at j)) = _
  rw [List.set_set]
theorem lc1_rule {P : SR → Prop} {k : OT → Ev → SR} {j : Nat} {mc : M Bool} {me : M OT} (I : Nat → List D → Ev → Prop) {xs : List D} {e : Ev} (own : ownOk e [j] = true) (h0 : I 0 [] e)
    (step : ∀ i d acc e, xs[i]? = some d → I i acc e → ∃ b e2, mc (e.set j (some (.fz d))) = .ok b e2 ∧ (b = true → ∃ t e3, me e2 = .ok t e3 ∧ I (i + 1) (acc ++ [t.view]) e3) ∧ (b = false → I (i + 1) acc e2))
    (fin : ∀ acc e', I xs.length acc e' → P (k (.ml acc) (e'.set j (e.at j)))) : P ((lcRun [j] (.nm j) mc me xs e).st k) := by
  obtain ⟨acc, e', h1, h2⟩ := lc1_ok I own h0 step
  rw [h1]; exact fin acc e' h2
/-- what is yielded: Q -/
def Yd {α : Type} (r : R α) (Q : α → Ev → Prop) : Prop := ∃ a e, r = .ok a e ∧ Q a e
@[simp] theorem Yd_ok {α : Type} (a : α) (e : Ev) (Q : α → Ev → Prop) : Yd (.ok a e) Q = Q a e := by
  apply propext
  exact ⟨fun ⟨_, _, h, q⟩ => by cases h; exact q, fun q => ⟨_, _, rfl, q⟩⟩
/-- a comprehension's turns, by what holds behind each -/
theorem lcY {P : SR → Prop} {k : OT → Ev → SR} {j : Nat} {mc : M Bool} {me : M OT} (I : Nat → List D → Ev → Prop) {xs : List D} {e : Ev} (own : ownOk e [j] = true) (h0 : I 0 [] e)
    (step : ∀ i d acc e, xs[i]? = some d → I i acc e → Yd (mc (e.set j (some (.fz d)))) fun b e2 => pickB b (Yd (me e2) fun t e3 => I (i + 1) (acc ++ [t.view]) e3) (I (i + 1) acc e2))
    (fin : ∀ acc e', I xs.length acc e' → P (k (.ml acc) (e'.set j (e.at j)))) : P ((lcRun [j] (.nm j) mc me xs e).st k) := by
  refine lc1_rule I own h0 (fun i d acc e hd hi => ?_) fin
  obtain ⟨b, e2, h1, h2⟩ := step i d acc e hd hi
  refine ⟨b, e2, h1, fun hb => ?_, fun hb => ?_⟩
  · subst hb; exact h2
  · subst hb; exact h2
theorem lcYb {P : R OT → Prop} {j : Nat} {mc : M Bool} {me : M OT} (I : Nat → List D → Ev → Prop) {xs : List D} {e : Ev} (own : ownOk e [j] = true) (h0 : I 0 [] e)
    (step : ∀ i d acc e, xs[i]? = some d → I i acc e → Yd (mc (e.set j (some (.fz d)))) fun b e2 => pickB b (Yd (me e2) fun t e3 => I (i + 1) (acc ++ [t.view]) e3) (I (i + 1) acc e2))
    (fin : ∀ acc e', I xs.length acc e' → P (.ok (.ml acc) (e'.set j (e.at j)))) : P (lcRun [j] (.nm j) mc me xs e) := by
  obtain ⟨acc, e', h1, h2⟩ := lc1_ok I own h0 fun i d acc e hd hi => by
    obtain ⟨b, e2, h1, h2⟩ := step i d acc e hd hi
    refine ⟨b, e2, h1, fun hb => ?_, fun hb => ?_⟩
    · subst hb; exact h2
    · subst hb; exact h2
  rw [h1]; exact fin acc e' h2
theorem mkI {α : Type} (p : α → Prop) : ∃ I : α → Prop, ∀ a, I a ↔ p a := ⟨p, fun _ => Iff.rfl⟩
theorem mkI2 {α β : Type} (p : α → β → Prop) : ∃ I : α → β → Prop, ∀ a b, I a b ↔ p a b := ⟨p, fun _ _ => Iff.rfl⟩
theorem mkI3 {α β γ : Type} (p : α → β → γ → Prop) : ∃ I : α → β → γ → Prop, ∀ a b c, I a b c ↔ p a b c := ⟨p, fun _ _ _ => Iff.rfl⟩
/-- nothing is changed within -/
theorem lc1_map {j : Nat} {mc : M Bool} {me : M OT} {xs : List D} {e : Ev} (c : D → Bool) (g : D → OT) (own : ownOk e [j] = true) (hc : ∀ d ∈ xs, mc (e.set j (some (.fz d))) = .ok (c d) (e.set j (some (.fz d))))
    (he : ∀ d ∈ xs, c d = true → me (e.set j (some (.fz d))) = .ok (g d) (e.set j (some (.fz d)))) : lcRun [j] (.nm j) mc me xs e = .ok (.ml ((xs.filter c).map fun d => (g d).view)) e := by
  obtain ⟨acc, e', h1, h2, d', h3⟩ := lc1_ok (j := j) (mc := mc) (me := me) (xs := xs) (e := e) (fun i acc e' => acc = ((xs.take i).filter c).map (fun d => (g d).view) ∧ ∃ x, e' = e.set j x) own ⟨by simp [-R.bind], e.at j, by
    have := set_set_at e j none
    rw [List.set_set] at this; exact this.symm⟩ fun i d acc e' hd ⟨ha, x, hx⟩ => by
    subst hx
    have hm := List.mem_of_getElem? hd
    have ht : xs.take (i + 1) = xs.take i ++ [d] := by rw [List.take_add_one, hd]; rfl
    refine ⟨c d, e.set j (some (.fz d)), by rw [List.set_set]; exact hc d hm, fun hb => ⟨g d, e.set j (some (.fz d)), he d hm hb, ?_, _, rfl⟩, fun hb => ⟨?_, _, rfl⟩⟩
    · rw [ht, ha]; simp [-R.bind, hb]
    · rw [ht, ha]; simp [-R.bind, hb]
  rw [h1, h2, h3, set_set_at, List.take_length]
theorem lc1_map1 {j : Nat} {me : M OT} {xs : List D} {e : Ev} (g : D → OT) (own : ownOk e [j] = true) (he : ∀ d ∈ xs, me (e.set j (some (.fz d))) = .ok (g d) (e.set j (some (.fz d)))) :
    lcRun [j] (.nm j) (M.pure true) me xs e = .ok (.ml (xs.map fun d => (g d).view)) e := by
  have := lc1_map (j := j) (mc := M.pure true) (me := me) (xs := xs) (e := e) (fun _ => true) g own (fun _ _ => rfl) fun d hd _ => he d hd
  have e1 : xs.filter (fun _ => true) = xs := List.filter_eq_self.mpr fun _ _ => rfl
  rwa [e1] at this
/-- a statement goes on to Q -/
def Nx (r : SR) (Q : Ev → Prop) : Prop := ∃ e', r = .nx e' ∧ Q e'
@[simp] theorem Nx_nx (e : Ev) (Q : Ev → Prop) : Nx (.nx e) Q = Q e := by
  apply propext
  exact ⟨fun ⟨e', h, q⟩ => by cases h; exact q, fun q => ⟨e, rfl, q⟩⟩
theorem nx_imp {r : SR} {Q Q' : Ev → Prop} (h : Nx r Q) (f : ∀ e, Q e → Q' e) : Nx r Q' := by
  obtain ⟨e, h, q⟩ := h
  exact ⟨e, h, f e q⟩
/-- behind a statement that goes on to Q -/
theorem seqLp {P : SR → Prop} {KK k : Ev → SR} {I : Ev → Prop} {r : SR} (Q : Ev → Prop) (h : Nx r Q) (f : ∀ e, Q e → Lp P KK I (k e)) : Lp P KK I (r.sq k) := by
  obtain ⟨e, rfl, q⟩ := h
  exact f e q
theorem seqP {P : SR → Prop} {k : Ev → SR} {r : SR} (Q : Ev → Prop) (h : Nx r Q) (f : ∀ e, Q e → P (k e)) : P (r.sq k) := by
  obtain ⟨e, rfl, q⟩ := h
  exact f e q
theorem seqNx {k : Ev → SR} {R : Ev → Prop} {r : SR} (Q : Ev → Prop) (h : Nx r Q) (f : ∀ e, Q e → Nx (k e) R) : Nx (r.sq k) R := by
  obtain ⟨e, rfl, q⟩ := h
  exact f e q
/-- how a def ends -/
def Ends (ms : List Bool) (Q : OT → List Slot → Prop) (r : SR) : Prop := ∃ t o, endOf ms r = .ok t o ∧ Q t o
@[simp] theorem Ends_ret (ms : List Bool) (Q : OT → List Slot → Prop) (t : OT) (e : Ev) : Ends ms Q (.ret t e) = Q t (keepO ms e) := by
  apply propext
  exact ⟨fun ⟨t', o, h, q⟩ => by cases h; exact q, fun q => ⟨_, _, rfl, q⟩⟩
@[simp] theorem Ends_nx (ms : List Bool) (Q : OT → List Slot → Prop) (e : Ev) : Ends ms Q (.nx e) = Q (.fz .non) (keepO ms e) := by
  apply propext
  exact ⟨fun ⟨t', o, h, q⟩ => by cases h; exact q, fun q => ⟨_, _, rfl, q⟩⟩
theorem fn_ends {n : Nat} {ms : List Bool} {body : List IS} {as : List Slot} {Q : OT → List Slot → Prop} (h : Ends ms Q (run body (as ++ List.replicate (n - ms.length) none))) : ∃ t o, Def.fn ⟨n, ms, body⟩ as = .ok t o ∧ Q t o := h
theorem law_ends {n : Nat} {body : List IS} {as : List Slot} (h : Ends [false] (fun t _ => t = .fz (.bl true)) (run body (as ++ List.replicate (n - 1) none))) : ∃ o, Def.fn ⟨n, [false], body⟩ as = .ok (.fz (.bl true)) o := by
  obtain ⟨t, o, h1, rfl⟩ := fn_ends (ms := [false]) h
  exact ⟨o, h1⟩
theorem fn_def (n : Nat) (ms : List Bool) (body : List IS) (as : List Slot) : Def.fn ⟨n, ms, body⟩ as = endOf ms (run body (as ++ List.replicate (n - ms.length) none)) := rfl
@[simp] theorem endOf_nx (ms : List Bool) (e : Ev) : endOf ms (.nx e) = .ok (.fz .non) (keepO ms e) := rfl
@[simp] theorem endOf_ret (ms : List Bool) (t : OT) (e : Ev) : endOf ms (.ret t e) = .ok t (keepO ms e) := rfl
@[simp] theorem views_mapf {α : Type} (f : α → OT) (l : List α) : OT.views (l.map f) = l.map fun x => (f x).view := by
  induction l with
  | nil => rfl
  | cons x l ih => simp [-R.bind, ih]
@[simp] theorem allFz_comp {α : Type} (f : α → D) (l : List α) : allFz (l.map (OT.fz ∘ f)) = some (l.map f) := by
  induction l with
  | nil => rfl
  | cons x l ih => simp [-R.bind, ih]
@[simp] theorem views_comp {α : Type} (f : α → D) (l : List α) : OT.views (l.map (OT.fz ∘ f)) = l.map f := by
  induction l with
  | nil => rfl
  | cons x l ih => simp [-R.bind, ih]
@[simp] theorem allFz_mapf {α : Type} (f : α → D) (l : List α) : allFz (l.map fun x => .fz (f x)) = some (l.map f) := by
  induction l with
  | nil => rfl
  | cons x l ih => simp [-R.bind, ih]
theorem rngO_ok {a b : Int} (h1 : -8000000 ≤ a ∧ a ≤ 8000000) (h2 : -8000000 ≤ b ∧ b ≤ 8000000) : rngO a b = some (rngD a (b - a).toNat) := by
  unfold rngO; rw [if_pos ⟨h1.1, h1.2, h2.1, h2.2⟩]
theorem rngO_nat {n : Nat} (h : n ≤ 8000000) : rngO 0 (n : Int) = some (rngD 0 n) := by
  rw [rngO_ok (by omega) (by omega)]; simp [-R.bind]
@[simp] theorem rngD_get (a : Int) (n i : Nat) : (rngD a n)[i]? = if i < n then some (.int (a + i)) else none := by
  unfold rngD
  rw [List.getElem?_map]
  by_cases h : i < n
  · rw [if_pos h, List.getElem?_range h]; rfl
  · rw [if_neg h, List.getElem?_eq_none (by simp [-R.bind]; omega)]; rfl
@[simp] theorem rngD_len (a : Int) (n : Nat) : (rngD a n).length = n := by simp [-R.bind, rngD]
@[simp] theorem items_rng1 (n : Int) : itemsOf .rng1 [.int n] = rngO 0 n := rfl
@[simp] theorem items_rng2 (a n : Int) : itemsOf .rng2 [.int a, .int n] = rngO a n := rfl
@[simp] theorem items_lst (xs : List D) : itemsOf .val [.lst xs] = some xs := rfl
@[simp] theorem items_tup (xs : List D) : itemsOf .val [.tup xs] = some xs := rfl
@[simp] theorem items_str (xs : List Nat) : itemsOf .val [.str xs] = some (xs.map fun c => .str [c]) := rfl
@[simp] theorem pow_18 : powD (.int 10) (.int 18) = some (.fz (.int 1000000000000000000)) := rfl
end Rx
end

section
namespace Lw
open PySem Rx
theorem cell_ok (ns : List Int) (k : Nat) : Ir._law_cell.fn [some (.fz (.lk (ns.map D.int))), some (.fz (.int k))] = .ok (.fz (.int (ns.getD k 0))) [none, none] := by
  by_cases h : k < ns.length
  · simp [-R.bind, Ir._law_cell, fn_def, h]
  · simp [-R.bind, Ir._law_cell, fn_def, h]
/-- the law's box: the row of what is drawn from, the place -/
abbrev box (row : List Nat) (at_ : Nat) : OT := .lst [.fz (.lst (row.map intD)), .fz (intD at_)]
def drawn (row : List Nat) (at_ : Nat) (m : Nat) : Nat := (if at_ < row.length then row.getD at_ 0 else at_ * 5 + 1) % m
theorem draw_ok (row : List Nat) (k m : Nat) (hm : 0 < m) : Ir._law_draw.fn [some (box row k), some (.fz (.int m))] = .ok (.fz (intD (drawn row k m))) [some (box row (k + 1)), none] := by
  have hm2 : (0 : Int) < m := by omega
  by_cases h : k < row.length
  · simp [-R.bind, Ir._law_draw, fn_def, h, box, drawn, hm]
  · simp [-R.bind, Ir._law_draw, fn_def, h, box, drawn, hm, mulD_r]
theorem draw_okI (row : List Nat) (k : Nat) (m : Int) (hm : 0 < m) : Ir._law_draw.fn [some (box row k), some (.fz (.int m))] = .ok (.fz (intD (drawn row k m.toNat))) [some (box row (k + 1)), none] := by
  obtain ⟨n, rfl⟩ : ∃ n : Nat, m = n := ⟨m.toNat, by omega⟩
  exact draw_ok row k n (by omega)
theorem drawn_lt (row : List Nat) (k : Nat) {m : Nat} (hm : 0 < m) : drawn row k m < m := Nat.mod_lt _ hm
/-- a list of numbers that is being made -/
abbrev rowO (row : List Nat) : OT := .lst (row.map fun n : Nat => OT.fz (D.int (n : Int)))
theorem row_ok (ns : List Int) (m : Nat) (hm : m ≤ 1000) : ∃ row : List Nat, Ir._law_row.fn [some (.fz (.lk (ns.map D.int))), some (.fz (.int 0)), some (.fz (.int m))] = .ok (.fz (.lst (row.map intD))) [none, none, none] := by
  unfold Ir._law_row
  rw [fn_def]
  simp [-R.bind, rngO_nat (show m ≤ 8000000 by omega)]
  refine forGo_rule (P := fun r => ∃ row : List Nat, endOf [false, false, false] r = .ok (.fz (.lst (row.map intD))) [none, none, none])
    (fun i e => ∃ row s4 s5 s6, row.length ≤ 60 * i ∧ e = [some (.fz (.lk (ns.map D.int))), some (.fz (.int 0)), some (.fz (.int m)), some (rowO row), s4, s5, s6]) ⟨[], none, none, none, by simp [-R.bind], rfl⟩ ?_ ?_
  · rintro i d e hd ⟨row, s4, s5, s6, hl, rfl⟩
    simp [-R.bind] at hd
    obtain ⟨hi, rfl⟩ := hd
    refine ⟨_, rfl, ?_⟩
    have e1 : ∀ x : Int, ∃ c : Nat, (if 2 * x < 0 then -(2 * x) else 2 * x) + (if x < 0 then 1 else 0) = (c : Int) := fun x => ⟨_, (Int.toNat_of_nonneg (by split <;> split <;> omega)).symm⟩
    obtain ⟨c, hc⟩ := e1 (ns[i]?.getD 0)
    by_cases hb : (1000000000000000000 : Int) < c
    · simp [-R.bind, cell_ok, mulD_l, hc, hb, rngO_ok]
      refine forGo_rule0 (fun j e => ∃ (row : List Nat) (c : Nat) (s6 : Slot), row.length ≤ 60 * i + j ∧ e = [some (.fz (.lk (ns.map D.int))), some (.fz (.int 0)), some (.fz (.int m)), some (rowO row), some (.fz (.int i)), some (.fz (.int c)), s6]) ⟨row, c, s6, by omega, rfl⟩ ?_ ?_
      · rintro j d e hd ⟨row, c, s6, hl, rfl⟩
        simp [-R.bind] at hd
        obtain ⟨hj, rfl⟩ := hd
        refine ⟨_, rfl, ?_⟩
        have hz : row.length < sizeMax := by unfold sizeMax; omega
        by_cases h0 : 0 < c
        · simp [-R.bind, h0, fdivD_ok, hz]
          exact ⟨row ++ [c % 840], by simp [-R.bind]; omega, by simp [-R.bind], c / 840, by simp [-R.bind]⟩
        · simp [-R.bind, h0]
          exact ⟨row, by omega, rfl, c, rfl⟩
      · rintro e' ⟨row, c, s6, hl, rfl⟩
        simp [-R.bind] at hl ⊢
        exact ⟨row, by omega, rfl⟩
    · simp [-R.bind, cell_ok, mulD_l, hc, hb, rngO_ok]
      refine forGo_rule0 (fun j e => ∃ (row : List Nat) (c : Nat) (s6 : Slot), row.length ≤ 60 * i + j ∧ e = [some (.fz (.lk (ns.map D.int))), some (.fz (.int 0)), some (.fz (.int m)), some (rowO row), some (.fz (.int i)), some (.fz (.int c)), s6]) ⟨row, c, s6, by omega, rfl⟩ ?_ ?_
      · rintro j d e hd ⟨row, c, s6, hl, rfl⟩
        simp [-R.bind] at hd
        obtain ⟨hj, rfl⟩ := hd
        refine ⟨_, rfl, ?_⟩
        have hz : row.length < sizeMax := by unfold sizeMax; omega
        simp [-R.bind, fdivD_ok, hz, mulD_l, mulD_r]
        exact ⟨row ++ [(c * 69069 + 104729 * (i + j) + 1) % 4294967291 / 5003 % 840], by simp [-R.bind]; omega, by simp [-R.bind], (c * 69069 + 104729 * (i + j) + 1) % 4294967291, by simp [-R.bind]⟩
      · rintro e' ⟨row, c, s6, hl, rfl⟩
        simp [-R.bind] at hl ⊢
        exact ⟨row, by omega, rfl⟩
  · rintro e' ⟨row, s4, s5, s6, hl, rfl⟩
    exact ⟨row, by simp [-R.bind]⟩
end Lw
end

section
/-! the program: conversions -/
namespace Pg
open PySem Rx
/-- a right: reading, writing -/
structure Rt where
  r : Bool
  w : Bool
  deriving DecidableEq
def Rt.s : Rt → List Nat
  | ⟨false, false⟩ => [45]
  | ⟨true, false⟩ => [114]
  | ⟨true, true⟩ => [114, 119]
  | ⟨false, true⟩ => [119]
def Rt.d (x : Rt) : D := .str x.s
def tyD (a : List Rt) : D := .tup (a.map Rt.d)
@[simp] theorem r_in (x : Rt) : decide ((114 : Nat) ∈ x.s) = x.r := by rcases x with ⟨_ | _, _ | _⟩ <;> rfl
@[simp] theorem w_in (x : Rt) : decide ((119 : Nat) ∈ x.s) = x.w := by rcases x with ⟨_ | _, _ | _⟩ <;> rfl
def letD (b : Bool) : D := if b then .str [114] else .str [119]
/-- the first bar: the letters on the way (true: r), the letter -/
def find : List Rt → List Rt → Option (List Bool × Bool)
  | x :: a, y :: b =>
    if y.r && !x.r then some ([], true) else if y.w && !x.w then some ([], false)
    else match (if y.r then (find a b).map fun q => (true :: q.1, q.2) else none) with
      | some q => some q
      | none => if y.w then (find b a).map fun q => (false :: q.1, q.2) else none
  | _, _ => none
termination_by a b => a.length + b.length
def foundD : Option (List Bool × Bool) → D
  | none => .non
  | some (ls, l) => .tup [.lst (ls.map letD), letD l]
theorem find_len : ∀ (a b : List Rt) (q : List Bool × Bool), find a b = some q → q.1.length ≤ a.length + b.length
  | [], _, _, h => by simp [find] at h
  | _ :: _, [], _, h => by simp [find] at h
  | x :: a, y :: b, q, h => by
    rw [find] at h
    by_cases h1 : (y.r && !x.r) = true
    · rw [if_pos h1] at h; cases h; exact Nat.zero_le _
    · rw [if_neg h1] at h
      by_cases h2 : (y.w && !x.w) = true
      · rw [if_pos h2] at h; cases h; exact Nat.zero_le _
      · rw [if_neg h2] at h
        cases h3 : find a b with
        | some p =>
          have := find_len a b p h3
          cases h4 : find b a with
          | some p2 =>
            have := find_len b a p2 h4
            rw [h3, h4] at h
            cases hr : y.r <;> cases hw : y.w <;> rw [hr, hw] at h <;> simp at h <;> subst h <;> simp <;> omega
          | none =>
            rw [h3, h4] at h
            cases hr : y.r <;> cases hw : y.w <;> rw [hr, hw] at h <;> simp at h <;> subst h <;> simp <;> omega
        | none =>
          cases h4 : find b a with
          | some p2 =>
            have := find_len b a p2 h4
            rw [h3, h4] at h
            cases hr : y.r <;> cases hw : y.w <;> rw [hr, hw] at h <;> simp at h <;> subst h <;> simp <;> omega
          | none =>
            rw [h3, h4] at h
            cases hr : y.r <;> cases hw : y.w <;> rw [hr, hw] at h <;> simp at h
termination_by a b => a.length + b.length
set_option maxHeartbeats 1000000 in
theorem find_ok : ∀ (n : Nat) (a b : List Rt), a.length = b.length → a.length < n → n ≤ 1000 → Ir._findN n [some (.fz (tyD a)), some (.fz (tyD b))] = .ok (.fz (foundD (find a b))) [none, none]
  | 0, _, _, _, h, _ => absurd h (Nat.not_lt_zero _)
  | n + 1, [], [], _, _, _ => by
    simp [-R.bind, Ir._findN, Ir._find, fn_def, tyD, find, foundD]
  | n + 1, x :: a, y :: b, hl, hn, h1000 => by
    have ih1 := find_ok n a b (by simpa using hl) (by simpa using hn) (by omega)
    have ih2 := find_ok n b a (by simpa using hl.symm) (by simp at hl hn; omega) (by omega)
    have c1 : ∀ (z : Rt) (l : List Rt), cut (D.str z.s :: l.map Rt.d) (some 1) none = l.map Rt.d := fun z l => by
      show (List.take _ _).drop 1 = _
      rw [show bnd (D.str z.s :: l.map Rt.d).length (D.str z.s :: l.map Rt.d).length none = (D.str z.s :: l.map Rt.d).length from rfl, List.take_length]; rfl
    have c2 : ∀ (z : Rt) (l : List Rt), slD (.tup (D.str z.s :: l.map Rt.d)) (some 1) none = some (.fz (tyD l)) := fun z l => by
      show some (OT.fz (.tup (cut _ _ _))) = _
      rw [c1]; rfl
    have c3 : ∀ (z : Rt) (l : List Rt), getI (D.str z.s :: l.map Rt.d) 0 = some (D.str z.s) := fun z l => by simp [-R.bind]
    have hx : ∀ (b1 : Bool), ∀ z : Rt, inD (letD b1) (D.str z.s) = some (if b1 then z.r else z.w) := fun b1 z => by
      cases b1 <;> rcases z with ⟨_ | _, _ | _⟩ <;> rfl
    have hxr : ∀ z : Rt, inD (.str [114]) (D.str z.s) = some z.r := hx true
    have hxw : ∀ z : Rt, inD (.str [119]) (D.str z.s) = some z.w := hx false
    unfold Ir._findN Ir._find
    rw [fn_def]
    have ix1 : Ir._findN n [some (.fz (.tup (a.map Rt.d))), some (.fz (.tup (b.map Rt.d)))] = Out.ok (OT.fz (foundD (find a b))) [none, none] := ih1
    have ix2 : Ir._findN n [some (.fz (.tup (b.map Rt.d))), some (.fz (.tup (a.map Rt.d)))] = Out.ok (OT.fz (foundD (find b a))) [none, none] := ih2
    have c4 : ∀ (z : Rt) (l : List Rt), slD (.tup (D.str z.s :: l.map Rt.d)) (some 1) none = some (.fz (.tup (l.map Rt.d))) := c2
    clear ih1 ih2 c2 hx c1
    have hf : find (x :: a) (y :: b) = if y.r && !x.r then some ([], true) else if y.w && !x.w then some ([], false)
    else match (if y.r then (find a b).map fun q => (true :: q.1, q.2) else none) with
      | some q => some q
      | none => if y.w then (find b a).map fun q => (false :: q.1, q.2) else none := by rw [find]
    rw [hf]
    have hab : a.length + b.length < 2002 := by simp at hl hn; omega
    have z1 : ∀ q, find a b = some q → 1 + q.1.length ≤ 16777216 := fun q h => by have := find_len a b q h; omega
    have z2 : ∀ q, find b a = some q → 1 + q.1.length ≤ 16777216 := fun q h => by have := find_len b a q h; omega
    cases h5 : find a b with
    | none =>
      cases h6 : find b a with
      | none =>
        simp [-R.bind, -inD_str, tyD, Rt.d, forGo_nm, forGo_nil, c3, hxr, hxw, c4, ix1, ix2, h5, h6, foundD, letD, nisD, isD, sizeMax, pb_bind, pb_st, pb_sq, pb_end, pb_lp]
        cases y.r <;> cases y.w <;> cases x.r <;> cases x.w <;> rfl
      | some q =>
        have w2 := z2 _ h6
        simp [-R.bind, -inD_str, tyD, Rt.d, forGo_nm, forGo_nil, c3, hxr, hxw, c4, ix1, ix2, h5, h6, foundD, letD, nisD, isD, sizeMax, pb_bind, pb_st, pb_sq, pb_end, pb_lp, w2]
        cases y.r <;> cases y.w <;> cases x.r <;> cases x.w <;> rfl
    | some p =>
      have w1 := z1 _ h5
      cases h6 : find b a with
      | none =>
        simp [-R.bind, -inD_str, tyD, Rt.d, forGo_nm, forGo_nil, c3, hxr, hxw, c4, ix1, ix2, h5, h6, foundD, letD, nisD, isD, sizeMax, pb_bind, pb_st, pb_sq, pb_end, pb_lp, w1]
        cases y.r <;> cases y.w <;> cases x.r <;> cases x.w <;> rfl
      | some q =>
        have w2 := z2 _ h6
        simp [-R.bind, -inD_str, tyD, Rt.d, forGo_nm, forGo_nil, c3, hxr, hxw, c4, ix1, ix2, h5, h6, foundD, letD, nisD, isD, sizeMax, pb_bind, pb_st, pb_sq, pb_end, pb_lp, w1, w2]
        cases y.r <;> cases y.w <;> cases x.r <;> cases x.w <;> rfl
end Pg
end

section
/-! the laws' own types -/
namespace Lw
open PySem Rx Pg
def R6 (k : Nat) : Rt := [⟨true, true⟩, ⟨true, true⟩, ⟨true, false⟩, ⟨false, true⟩, ⟨false, false⟩, ⟨true, true⟩].getD k ⟨false, false⟩
def RS (row : List Nat) (k n : Nat) : List Rt := (List.range n).map fun i => R6 (drawn row (k + i) 6)
@[simp] theorem RS_len (row : List Nat) (k n : Nat) : (RS row k n).length = n := by simp [RS]
/-! conversion, as the law has it -/
def wi (x y : Rt) : Bool := (!x.r || y.r) && (!x.w || y.w)
def conv : List Rt → List Rt → Bool
  | [], [] => true
  | x :: a, y :: b => wi y x && (!y.r || conv a b) && (!y.w || conv b a)
  | _, _ => false
termination_by a b => a.length + b.length
theorem conv_cons (x y : Rt) (a b : List Rt) : conv (x :: a) (y :: b) = (wi y x && (!y.r || conv a b) && (!y.w || conv b a)) := by rw [conv]
@[simp] theorem conv_nil : conv [] [] = true := by rw [conv]
theorem conv_len : ∀ (a b : List Rt), conv a b = true → a.length = b.length → True := fun _ _ _ _ => trivial
theorem tail_ty (x : Rt) (a : List Rt) : slD (tyD (x :: a)) (some 1) none = some (.fz (tyD a)) := by
  show some (OT.fz (.tup ((List.take ((x :: a).map Rt.d).length ((x :: a).map Rt.d)).drop 1))) = _
  rw [List.take_length]; rfl
theorem head_ty (x : Rt) (a : List Rt) : ixK (tyD (x :: a)) (.int 0) = some x.d := rfl
theorem len_ty (a : List Rt) : lenD [tyD a] = some (.fz (.int a.length)) := by simp [tyD]
theorem in_r (x : Rt) : inD (.str [114]) x.d = some x.r := by simp [Rt.d]
theorem in_w (x : Rt) : inD (.str [119]) x.d = some x.w := by simp [Rt.d]
theorem conv_find : ∀ (a b : List Rt), a.length = b.length → (find a b = none ↔ conv a b = true)
  | [], [], _ => by simp [find]
  | x :: a, y :: b, h => by
    have i1 := conv_find a b (by simpa using h)
    have i2 := conv_find b a (by simpa using h.symm)
    rw [conv_cons, find]
    cases h1 : find a b <;> cases h2 : find b a <;> cases h3 : conv a b <;> cases h4 : conv b a <;> simp [h1, h2, h3, h4] at i1 i2 <;> rcases x with ⟨_ | _, _ | _⟩ <;> rcases y with ⟨_ | _, _ | _⟩ <;> simp [wi]
termination_by a b => a.length + b.length
/-- a type's rights in a list that is being made -/
abbrev rtsO (a : List Rt) : OT := .lst (a.map fun x => .fz x.d)
theorem list_ty (a : List Rt) : listB [tyD a] = some (rtsO a) := by
  show some (OT.lst ((a.map Rt.d).map .fz)) = _
  rw [List.map_map]; rfl
theorem tup_ty (a : List Rt) : tupB [.lst (a.map Rt.d)] = some (.fz (tyD a)) := rfl
theorem flat_rts (a : List Rt) : (rtsO a).flat = some (.lst (a.map Rt.d)) := by simp [-R.bind]
theorem sto_rts (a : List Rt) (j : Nat) (c : Rt) (h : j < a.length) : stoO (.int j) (.fz c.d) (rtsO a) = some (rtsO (a.set j c)) := by
  simp [-R.bind, stoO, plc_nat, h, List.map_set]
end Lw
end

section
/-! conversion is a preorder -/
namespace Pg
open PySem Rx Lw
theorem wi_refl' (x : Rt) : wi x x = true := by rcases x with ⟨_ | _, _ | _⟩ <;> rfl
theorem conv_refl' : ∀ t : List Rt, conv t t = true
  | [] => conv_nil
  | x :: t => by rw [conv_cons, wi_refl', conv_refl' t]; cases x.r <;> cases x.w <;> rfl
theorem conv_trans' : ∀ (a b c : List Rt), a.length = b.length → b.length = c.length → conv a b = true → conv b c = true → conv a c = true
  | [], [], [], _, _, _, _ => conv_nil
  | x :: a, y :: b, z :: c, h1, h2, p, q => by
    have h1 : a.length = b.length := by simpa using h1
    have h2 : b.length = c.length := by simpa using h2
    have i1 := conv_trans' a b c h1 h2
    have i2 := conv_trans' c b a h2.symm h1.symm
    rw [conv_cons] at p q ⊢
    revert p q i1 i2
    generalize conv a b = u1
    generalize conv b a = u2
    generalize conv b c = u3
    generalize conv c b = u4
    generalize conv a c = u5
    generalize conv c a = u6
    rcases x with ⟨_ | _, _ | _⟩ <;> rcases y with ⟨_ | _, _ | _⟩ <;> rcases z with ⟨_ | _, _ | _⟩ <;> simp [wi] <;> cases u1 <;> cases u2 <;> cases u3 <;> cases u4 <;> simp_all
  termination_by a => a.length
  decreasing_by all_goals simp_all; try omega
end Pg
end

section
/-! Rx, laws: how the evaluator goes, the later constructs. -/
namespace Rx
open PySem
@[simp] theorem semAtt (a : IE) (cs : List Str) (f : Str) : (sem (.att a cs f)).1 = M.bind (sem a).1 fun t => M.bind (M.lift (attD t.view cs f)) fun d => M.pure (.fz d) := rfl
@[simp] theorem semChn (o1 o2 : CmpOp) (g1 g2 : D → D → Option Bool) (a b c : IE) : (sem (.chn o1 o2 g1 g2 a b c)).1 = op2M a b (sem a).1 (sem b).1 fun x y rb => M.bind (M.lift (g1 x y)) fun k => pickB k (M.bind (opd c (sem c).1) fun rc => M.bind (fin b rb) fun y => M.bind (fin c rc) fun z => blM (g2 y z)) (M.pure (.fz (.bl false))) := by
  show chnM g1 g2 a b c (sem a).1 (sem b).1 (sem c).1 = _
  unfold chnM
  congr 1; funext x y rb; congr 1; funext k; cases k <;> rfl
@[simp] theorem tstChn (o1 o2 : CmpOp) (g1 g2 : D → D → Option Bool) (a b c : IE) : (sem (.chn o1 o2 g1 g2 a b c)).2 = truthM (.chn o1 o2 g1 g2 a b c) (sem (.chn o1 o2 g1 g2 a b c)).1 := rfl
@[simp] theorem semMk (x : Str) (f : Fn) (es : List IE) : (sem (.mk x f es)).1 = M.bind (evs es) fun ts => mkC x f (OT.views ts) := rfl
@[simp] theorem semMth (T : String) (m : Str) (g : D → List D → Option OT) (a : IE) (es : List IE) : (sem (.mth T m g a es)).1 = M.bind (opd a (sem a).1) fun ra => M.bind (tyM T a ra) fun _ => M.bind (evOps es) fun rs => M.bind (fin a ra) fun x => M.bind (fins es rs) fun ds => M.lift (g x ds) := rfl
@[simp] theorem tstMth (T : String) (m : Str) (g : D → List D → Option OT) (a : IE) (es : List IE) : (sem (.mth T m g a es)).2 = truthM (.mth T m g a es) (sem (.mth T m g a es)).1 := rfl
@[simp] theorem tstAtt (a : IE) (cs : List Str) (f : Str) : (sem (.att a cs f)).2 = truthM (.att a cs f) (sem (.att a cs f)).1 := rfl
@[simp] theorem tyM_app (T : String) (x : IE) (r : Option D) (e : Ev) : tyM T x r e = (fin x r e).bind fun d e1 => if d.ty = some T then .ok () e1 else .bad := rfl
@[simp] theorem semDc (tg : TGt) (k : ITK) (its : List IE) (kx vx : IE) (own : List Nat) : (sem (.dc tg k its kx vx own)).1 = M.bind (evs its) fun ts => M.bind (M.lift (itemsOf k (OT.views ts))) fun xs => dcRun own tg (sem kx).1 (sem vx).1 xs := rfl
/-- a call of a name that holds a def -/
def cvM (tbl : List (Str × Fn)) (me : M (List OT)) (t : OT) : M OT := match t with
  | .fz (.fn x) => (match tbl.lookup x with
    | some f => M.bind me fun ts => callC f (OT.views ts)
    | none => fun _ => .bad)
  | _ => fun _ => .bad
@[simp] theorem semCv (j : Nat) (tbl : List (Str × Fn)) (es : List IE) : (sem (.cv j tbl es)).1 = M.bind (M.get j) fun t => cvM tbl (evs es) t := rfl
@[simp] theorem cvM_fn (tbl : List (Str × Fn)) (me : M (List OT)) (x : Str) : cvM tbl me (.fz (.fn x)) = match tbl.lookup x with
    | some f => M.bind me fun ts => callC f (OT.views ts)
    | none => fun _ => .bad := rfl
@[simp] theorem semPop0 (j : Nat) (x : IE) : (sem (.pop j [] (some x))).1 = M.bind (evOpt (some x)) fun k => fun e => (match e.at j with
    | some t => (match popO k t with
      | some (d, u') => .ok (.fz d) (e.set j (some u'))
      | none => .bad)
    | none => .bad) := by
  show (M.bind (evOpt (some x)) fun k => fun e => (match e.at j with
    | some t => (match nav e t [] with
      | some u => (match popO k u with
        | some (d, u') => (match updAt j [] (fun _ => some u') e with
          | some e' => R.ok (OT.fz d) e'
          | none => .bad)
        | none => .bad)
      | none => .bad)
    | none => .bad)) = _
  congr 1; funext k e
  cases h : e.at j with
  | none => rfl
  | some t =>
    simp only [nav]
    cases popO k t with
    | none => rfl
    | some q => obtain ⟨d, u'⟩ := q; simp only [updAt, h, setAt, Option.map_some]
@[simp] theorem callC_app (f : Fn) (ds : List D) (e : Ev) : callC f ds e = match f (ds.map fun d => some (.fz d)) with
  | .bad => .bad
  | .ok r _ => .ok r e
  | .exn x _ => .exn x e := rfl
@[simp] theorem mkC_app (x : Str) (f : Fn) (ds : List D) (e : Ev) : mkC x f ds e = match f (some (.ins x []) :: ds.map fun d => some (.fz d)) with
  | .ok (.fz .non) (some o :: _) => .ok o e
  | .exn y _ => .exn y e
  | _ => .bad := rfl
@[simp] theorem run_sta (j : Nat) (c f : Str) (x : IE) (e : Ev) : run1 (.sta j c f x) e = ((sem x).1 e).st fun t e1 => ofO (updAt j [] (staO c f t) e1) := rfl
@[simp] theorem run_rais (x : Str) (mk : List D → Option Exn) (es : List IE) (e : Ev) : run1 (.rais x mk es) e = ((M.bind (evs es) fun ts => M.lift (mk (OT.views ts))) e).st fun x e1 => .exn x e1 := rfl
@[simp] theorem run_tryR (b : List IS) (c : Str) (j : Nat) (f : Str) (e : Ev) : run1 (.tryR b c j f) e = tryS c (retF j f) (run b e) := rfl
@[simp] theorem tryS_nx (c : Str) (h : List (Str × D) → Ev → SR) (e : Ev) : tryS c h (.nx e) = .nx e := rfl
@[simp] theorem tryS_ret (c : Str) (h : List (Str × D) → Ev → SR) (t : OT) (e : Ev) : tryS c h (.ret t e) = .ret t e := rfl
@[simp] theorem tryS_exn (c : Str) (h : List (Str × D) → Ev → SR) (x : Exn) (e : Ev) : tryS c h (.exn x e) = if x.cls = c then h x.fs e else .bad := rfl
@[simp] theorem OT.view_dic (kvs : List (D × D)) : OT.view (.dic kvs) = .dic kvs := rfl
@[simp] theorem OT.view_ins (c : Str) (fs : List (Str × OT)) : OT.view (.ins c fs) = .ins c (OT.viewf fs) := rfl
@[simp] theorem OT.viewf_nil : OT.viewf [] = [] := rfl
@[simp] theorem OT.viewf_cons (f : Str) (x : OT) (fs : List (Str × OT)) : OT.viewf ((f, x) :: fs) = (f, x.view) :: OT.viewf fs := rfl
@[simp] theorem OT.flat_dic (kvs : List (D × D)) : OT.flat (.dic kvs) = some (.dic kvs) := rfl
@[simp] theorem attD_ins (c : Str) (fs : List (Str × D)) (cs : List Str) (f : Str) : attD (.ins c fs) cs f = if c ∈ cs then fs.lookup f else none := rfl
@[simp] theorem staO_ins (c f : Str) (x : OT) (fs : List (Str × OT)) : staO c f x (.ins c fs) = if fs.length < 1000 then some (.ins c (putA f x fs)) else none := by
  show (if c = c ∧ fs.length < 1000 then _ else _) = _
  simp
@[simp] theorem inD_dic (a : D) (kvs : List (D × D)) : inD a (.dic kvs) = if isKey a = true then some (hasD kvs a) else none := rfl
@[simp] theorem ixK_dic (kvs : List (D × D)) (k : D) : ixK (.dic kvs) k = lookD kvs k := rfl
@[simp] theorem getDk_ok (kvs : List (D × D)) (k : D) : getDk (.dic kvs) [k] = if isKey k = true then some (.fz ((lookD kvs k).getD .non)) else none := rfl
@[simp] theorem isKey_str (s : List Nat) : isKey (.str s) = true := rfl
@[simp] theorem isKey_int (s : Int) : isKey (.int s) = true := rfl
@[simp] theorem items_enum (xs : List D) : itemsOf .enum [.lst xs] = some (enumD 0 xs) := rfl
@[simp] theorem items_zip (xs ys : List D) : itemsOf .zip [.lst xs, .lst ys] = some (zipD xs ys) := rfl
@[simp] theorem bindT_tp (ts : List TGt) (ds : List D) (e : Ev) : bindT (.tp ts) (.tup ds) e = bindTs ts ds e := rfl
@[simp] theorem bindT_tpl (ts : List TGt) (ds : List D) (e : Ev) : bindT (.tp ts) (.lst ds) e = bindTs ts ds e := rfl
@[simp] theorem bindTs_nil (e : Ev) : bindTs [] [] e = some e := rfl
@[simp] theorem bindTs_cons (t : TGt) (ts : List TGt) (d : D) (ds : List D) (e : Ev) : bindTs (t :: ts) (d :: ds) e = (bindT t d e).bind fun e' => bindTs ts ds e' := rfl
@[simp] theorem isi_list_lst (xs ds : List D) : isiD "list" (.lst xs) ds = some (.fz (.bl true)) := rfl
@[simp] theorem isi_list_tup (xs ds : List D) : isiD "list" (.tup xs) ds = some (.fz (.bl false)) := rfl
@[simp] theorem isi_list_str (xs : List Nat) (ds : List D) : isiD "list" (.str xs) ds = some (.fz (.bl false)) := rfl
@[simp] theorem isi_tuple_tup (xs ds : List D) : isiD "tuple" (.tup xs) ds = some (.fz (.bl true)) := rfl
@[simp] theorem isi_tuple_lst (xs ds : List D) : isiD "tuple" (.lst xs) ds = some (.fz (.bl false)) := rfl
@[simp] theorem isi_str_str (xs : List Nat) (ds : List D) : isiD "str" (.str xs) ds = some (.fz (.bl true)) := rfl
@[simp] theorem isi_bool_bl (b : Bool) (ds : List D) : isiD "bool" (.bl b) ds = some (.fz (.bl true)) := rfl
@[simp] theorem wipeE_nil (e : Ev) : wipeE e [] = e := rfl
@[simp] theorem wipeE_cons (e : Ev) (j : Nat) (js : List Nat) : wipeE e (j :: js) = (wipeE e js).set j none := rfl
@[simp] theorem views_append (a b : List OT) : OT.views (a ++ b) = OT.views a ++ OT.views b := by
  induction a with
  | nil => rfl
  | cons x a ih => simp [-R.bind, ih]
theorem allFz_append {a b : List OT} {x y : List D} (h1 : allFz a = some x) (h2 : allFz b = some y) : allFz (a ++ b) = some (x ++ y) := by
  induction a generalizing x with
  | nil => cases h1; exact h2
  | cons t a ih =>
    cases t with
    | fz d =>
      rw [allFz_cons] at h1
      obtain ⟨z, hz, rfl⟩ := Option.map_eq_some_iff.mp h1
      rw [List.cons_append, allFz_cons, ih hz]; rfl
    | lst ts => cases h1
    | dic ts => cases h1
    | din ts => cases h1
    | ins c ts => cases h1
@[simp] theorem extK_lst (ds : List D) (f : List D → SR) : extK (.lst ds) f = f ds := rfl
/-- a list that grows -/
theorem ext_ml (xs ys : List D) : extO ys (.ml xs) = if xs.length + ys.length ≤ sizeMax then some (.ml (xs ++ ys)) else none := by
  show (if (xs.map OT.fz).length + ys.length ≤ sizeMax then some (OT.lst (xs.map .fz ++ ys.map .fz)) else none) = _
  rw [List.length_map, ← List.map_append]
/-! ### a comprehension that changes nothing, any target -/
theorem lc_map {own : List Nat} {tg : TGt} {mc : M Bool} {me : M OT} {xs : List D} {e : Ev} (c : D → Bool) (g : D → OT) (hown : ownOk e own = true) (hr : restE e (wipeE e own) own = e)
    (step : ∀ d ∈ xs, ∃ e1, bindT tg d (wipeE e own) = some e1 ∧ mc e1 = .ok (c d) e1 ∧ (c d = true → me e1 = .ok (g d) e1) ∧ wipeE e1 own = wipeE e own) : lcRun own tg mc me xs e = .ok (.ml ((xs.filter c).map fun d => (g d).view)) e := by
  have go : ∀ (ys : List D) (acc : List D) (e' : Ev), (∀ d ∈ ys, d ∈ xs) → wipeE e' own = wipeE e own → ∃ e2, lcGo own tg mc me ys acc e' = .ok (acc ++ (ys.filter c).map fun d => (g d).view) e2 ∧ wipeE e2 own = wipeE e own := by
    intro ys
    induction ys with
    | nil => intro acc e' _ hw; exact ⟨e', by simp [-R.bind, lcGo], hw⟩
    | cons d ds ih =>
      intro acc e' hm hw
      obtain ⟨e1, h1, h2, h3, h4⟩ := step d (hm d List.mem_cons_self)
      have hm2 : ∀ d ∈ ds, d ∈ xs := fun z hz => hm z (List.mem_cons_of_mem _ hz)
      have eq : lcGo own tg mc me (d :: ds) acc e' = (noX (mc e1)).bind fun b e2 => pickB b ((noX (me e2)).bind fun t e3 => lcGo own tg mc me ds (acc ++ [t.view]) e3) (lcGo own tg mc me ds acc e2) := by
        show (match bindT tg d (wipeE e' own) with | none => _ | some e1 => _) = _
        rw [hw, h1]
      rw [eq, h2]
      cases hc : c d with
      | true =>
        obtain ⟨e2, q1, q2⟩ := ih (acc ++ [(g d).view]) e1 hm2 h4
        exact ⟨e2, by simp [-R.bind, h3 hc, q1, hc], q2⟩
      | false =>
        obtain ⟨e2, q1, q2⟩ := ih acc e1 hm2 h4
        exact ⟨e2, by simp [-R.bind, q1, hc], q2⟩
  obtain ⟨e2, q1, q2⟩ := go xs [] e (fun _ h => h) rfl
  unfold lcRun
  rw [hown]
  show (lcGo own tg mc me xs [] e).bind _ = _
  rw [q1]
  show R.ok _ (restE e (wipeE e2 own) own) = _
  rw [q2, hr]; simp
/-! ### dicts -/
theorem putD_new {kvs : List (D × D)} {k v : D} (h : ∀ p ∈ kvs, p.1 ≠ k) : putD kvs k v = kvs ++ [(k, v)] := by
  have : hasD kvs k = false := by
    unfold hasD
    rw [List.any_eq_false]
    intro p hp; simpa using h p hp
  unfold putD
  rw [this]
theorem putD_len (kvs : List (D × D)) (k v : D) : (putD kvs k v).length ≤ kvs.length + 1 := by
  unfold putD
  cases hasD kvs k <;> simp
/-- a dict of distinct keys is made -/
theorem dc_map {own : List Nat} {tg : TGt} {mk mv : M OT} {xs : List D} {e : Ev} (gk gv : D → D) (hown : ownOk e own = true) (hr : restE e (wipeE e own) own = e) (hn : (xs.map gk).Nodup) (hz : xs.length ≤ sizeMax)
    (step : ∀ d ∈ xs, ∃ e1 t u, bindT tg d (wipeE e own) = some e1 ∧ mk e1 = .ok t e1 ∧ mv e1 = .ok u e1 ∧ t.view = gk d ∧ u.view = gv d ∧ isKey (gk d) = true ∧ wipeE e1 own = wipeE e own) : dcRun own tg mk mv xs e = .ok (.dic (xs.map fun d => (gk d, gv d))) e := by
  have go : ∀ (ys zs : List D) (e' : Ev), xs = zs ++ ys → wipeE e' own = wipeE e own → ∃ e2, dcGo own tg mk mv ys (zs.map fun d => (gk d, gv d)) e' = .ok (xs.map fun d => (gk d, gv d)) e2 ∧ wipeE e2 own = wipeE e own := by
    intro ys
    induction ys with
    | nil => intro zs e' hx hw; rw [List.append_nil] at hx; subst hx; exact ⟨e', rfl, hw⟩
    | cons d ds ih =>
      intro zs e' hx hw
      obtain ⟨e1, t, u, h1, h2, h3, h4, h5, h6, h7⟩ := step d (by rw [hx]; simp)
      have hl : (zs.map fun d => (gk d, gv d)).length < sizeMax := by
        have := congrArg List.length hx
        simp at this ⊢; omega
      have eq : dcGo own tg mk mv (d :: ds) (zs.map fun d => (gk d, gv d)) e' = dcGo own tg mk mv ds (putD (zs.map fun d => (gk d, gv d)) (gk d) (gv d)) e1 := by
        show (match bindT tg d (wipeE e' own) with | none => _ | some e1 => _) = _
        rw [hw, h1]
        show (noX (mk e1)).bind _ = _
        rw [h2]
        show (noX (mv e1)).bind _ = _
        rw [h3]
        show (if isKey t.view = true ∧ _ then _ else _) = _
        rw [h4, if_pos ⟨h6, hl⟩, h5]
      rw [eq, putD_new (fun p hp => ?_)]
      · obtain ⟨e2, q1, q2⟩ := ih (zs ++ [d]) e1 (by rw [hx]; simp) h7
        exact ⟨e2, by simpa using q1, q2⟩
      · obtain ⟨z, hz, rfl⟩ := List.mem_map.mp hp
        rw [hx] at hn
        simp only [List.map_append, List.map_cons] at hn
        have := List.nodup_append.mp hn
        exact this.2.2 (gk z) (List.mem_map_of_mem hz) (gk d) List.mem_cons_self
  obtain ⟨e2, q1, q2⟩ := go xs [] e rfl rfl
  unfold dcRun
  rw [hown]
  show (dcGo own tg mk mv xs [] e).bind _ = _
  rw [show dcGo own tg mk mv xs [] e = _ from q1]
  show R.ok _ (restE e (wipeE e2 own) own) = _
  rw [q2, hr]
theorem blsOf_all {l : List D} (h : ∀ d ∈ l, d = .bl true) : allB [.lst l] = some (.fz (.bl true)) := by
  have : blsOf l = some (l.map fun _ => true) := by
    induction l with
    | nil => rfl
    | cons d ds ih =>
      rw [h d List.mem_cons_self]
      simp [-R.bind, blsOf, ih fun z hz => h z (List.mem_cons_of_mem _ hz)]
  show (blsOf l).map _ = _
  rw [this]
  simp
end Rx
end

section
/-! Rx, laws: how the evaluator goes: paths, methods. -/
namespace Rx
open PySem
@[simp] theorem semPth (j : Nat) (ss : List Wy) : (sem (.pth j ss)).1 = M.bind (M.get j) fun t => fun e => (match nav e t ss with
    | some (.fz d) => .ok (.fz d) e
    | _ => .bad) := rfl
@[simp] theorem semLnp (j : Nat) (ss : List Wy) : (sem (.lnp j ss)).1 = M.bind (M.get j) fun t => fun e => (match nav e t ss with
    | some (.lst ts) => .ok (.fz (intD ts.length)) e
    | _ => .bad) := rfl
@[simp] theorem semMeth (c m : Str) (ms : List Bool) (f : Fn) (j : Nat) (es : List IE) : (sem (.meth c m ms f j es)).1 = M.bind (M.get j) fun t => M.bind (chkM c m t) fun _ => M.bind (evArgs ms es) fun as => callF f ((none, some j) :: as) := rfl
@[simp] theorem tstMeth (c m : Str) (ms : List Bool) (f : Fn) (j : Nat) (es : List IE) : (sem (.meth c m ms f j es)).2 = truthM (.meth c m ms f j es) (sem (.meth c m ms f j es)).1 := rfl
@[simp] theorem chkM_ins (c m : Str) (fs : List (Str × OT)) : chkM c m (.ins c fs) = if fs.lookup m = none then M.pure () else fun _ => .bad := by
  show (if c = c ∧ fs.lookup m = none then M.pure () else fun _ => .bad : M Unit) = _
  by_cases h : fs.lookup m = none
  · rw [if_pos ⟨rfl, h⟩, if_pos h]
  · rw [if_neg (fun z : c = c ∧ fs.lookup m = none => h z.2), if_neg h]
@[simp] theorem run_apq (j : Nat) (ss : List Wy) (x : IE) (e : Ev) : run1 (.apq j ss x) e = (match e.at j with
    | some t0 => (match nav e t0 ss with
      | some (.lst _) => ((sem x).1 (e.set j none)).st fun t e1 => (match setAt e (appO t) t0 ss with
        | some t' => .nx (e1.set j (some t'))
        | none => .bad)
      | _ => .bad)
    | none => .bad) := rfl
@[simp] theorem run_stp (j : Nat) (ss : List Wy) (w : Wy) (x : IE) (e : Ev) : run1 (.stp j ss w x) e = ((sem x).1 e).st fun t e1 => ofO (updAt j ss (stpO e1 w t) e1) := rfl
@[simp] theorem run_aga (j : Nat) (c f : Str) (i : Int) (e : Ev) : run1 (.aga j c f i) e = ofO (updAt j [] (agaO c f i) e) := rfl
@[simp] theorem child_c (e : Ev) (ts : List OT) (i : Int) : Wy.child e (.lst ts) (.c i) = getI ts i := rfl
@[simp] theorem child_f (e : Ev) (c : Str) (fs : List (Str × OT)) (cs : List Str) (x : Str) : Wy.child e (.ins c fs) (.f cs x) = if c ∈ cs then fs.lookup x else none := rfl
@[simp] theorem child_ct (e : Ev) (ds : List D) (i : Int) : Wy.child e (.fz (.tup ds)) (.c i) = (getI ds i).map .fz := rfl
@[simp] theorem child_cl (e : Ev) (ds : List D) (i : Int) : Wy.child e (.fz (.lst ds)) (.c i) = (getI ds i).map .fz := rfl
theorem child_v {e : Ev} {j : Nat} {i : Int} (h : e.at j = some (.fz (.int i))) (ts : List OT) : Wy.child e (.lst ts) (.v j) = getI ts i := by simp only [Wy.child, h]
end Rx
end

section
/-! Rx, laws: how the evaluator goes: what comes first is evaluated first. -/
namespace Rx
open PySem
theorem st_cg {α : Type} {r r' : R α} (f : α → Ev → SR) (h : r = r') : r.st f = r'.st f := by rw [h]
theorem bind_cg {α β : Type} {r r' : R α} (f : α → Ev → R β) (h : r = r') : r.bind f = r'.bind f := by rw [h]
theorem sq_cg (k : Ev → SR) {r r' : SR} (h : r = r') : r.sq k = r'.sq k := by rw [h]
theorem pickB_cg {α : Type} {b b' : Bool} (x y : α) (h : b = b') : pickB b x y = pickB b' x y := by rw [h]
theorem Lp_of {P : SR → Prop} {k : Ev → SR} {I : Ev → Prop} {r : SR} {e : Ev} (h : r = .nx e) (hi : I e) : Lp P k I r := by rw [h]; exact hi
end Rx
end

section
/-! Rx, laws: walks over dicts, dicts whose keys are tuples -/
namespace Rx
open PySem
@[simp] theorem semLcD (tg : TGt) (k : ITK) (x : IE) (c : Option IE) (y : IE) (own : List Nat) : (sem (.lcD tg k x c y own)).1 = M.bind (sem x).1 fun t => M.bind (M.lift (itemsOf k [t.view])) fun xs => lcRun own tg (semOpt c) (sem y).1 xs := rfl
@[simp] theorem semDcD (tg : TGt) (k : ITK) (x : IE) (kx vx : IE) (own : List Nat) : (sem (.dcD tg k x kx vx own)).1 = M.bind (sem x).1 fun t => M.bind (M.lift (itemsOf k [t.view])) fun xs => dcRun own tg (sem kx).1 (sem vx).1 xs := rfl
@[simp] theorem semDcN (tg : TGt) (k : ITK) (its : List IE) (kx vx : IE) (own : List Nat) : (sem (.dcN tg k its kx vx own)).1 = M.bind (evs its) fun ts => M.bind (M.lift (itemsOf k (OT.views ts))) fun xs => dcRunN own tg (sem kx).1 (sem vx).1 xs := rfl
@[simp] theorem semDn : (sem .dnewN).1 = M.pure (.din []) := rfl
@[simp] theorem run_ford (tg : TGt) (k : ITK) (x : IE) (body : List IS) (e : Ev) : run1 (.ford tg k x body) e = ((M.bind (sem x).1 fun t => M.lift (itemsOf k [t.view])) e).st fun xs e1 => (forGo tg (run body) xs e1).noE := rfl
@[simp] theorem run_par (i j : Nat) (a b : IE) (e : Ev) : run1 (.par i j a b) e = ((evs [a, b]) e).st fun ts e2 => (match OT.views ts with
    | [t, u] => .nx ((e2.set i (some (.fz t))).set j (some (.fz u)))
    | _ => .bad) := rfl
@[simp] theorem items_items (kvs : List (D × D)) : itemsOf .items [.dic kvs] = some (kvs.map fun p => .tup [p.1, p.2]) := rfl
@[simp] theorem items_values (kvs : List (D × D)) : itemsOf .values [.dic kvs] = some (kvs.map (·.2)) := rfl
@[simp] theorem items_keys (kvs : List (D × D)) : itemsOf .keys [.dic kvs] = some (kvs.map (·.1)) := rfl
@[simp] theorem items_itemsN (kvs : List (D × D)) : itemsOf .items [.din kvs] = some (kvs.map fun p => .tup [p.1, p.2]) := rfl
@[simp] theorem items_keysN (kvs : List (D × D)) : itemsOf .keys [.din kvs] = some (kvs.map (·.1)) := rfl
@[simp] theorem OT.view_din (kvs : List (D × D)) : OT.view (.din kvs) = .din kvs := rfl
@[simp] theorem OT.flat_din (kvs : List (D × D)) : OT.flat (.din kvs) = some (.din kvs) := rfl
@[simp] theorem inD_din (a : D) (kvs : List (D × D)) : inD a (.din kvs) = if isKeyN a = true then some (hasD kvs a) else none := rfl
@[simp] theorem SR.noE_ct (e : Ev) : (SR.ct e).noE = .ct e := rfl
@[simp] theorem SR.noE_brk (e : Ev) : (SR.brk e).noE = .brk e := rfl
theorem nx_noE {r : SR} {Q : Ev → Prop} (h : Nx r Q) : Nx r.noE Q := by
  obtain ⟨e, rfl, q⟩ := h
  exact ⟨e, rfl, q⟩
/-- a loop without an exit -/
theorem forGo_nx {tg : TGt} {body : Ev → SR} {xs : List D} {e : Ev} (I : Nat → Ev → Prop) (h0 : I 0 e)
    (step : ∀ i d e, xs[i]? = some d → I i e → ∃ e1, bindT tg d e = some e1 ∧ Nx (body e1) (I (i + 1))) : Nx (forGo tg body xs e) (I xs.length) := by
  refine forGo_rule0 (P := fun r => Nx r (I xs.length)) I h0 (fun i d e hd hi => ?_) fun e' h => by simpa using h
  obtain ⟨e1, h1, e2, h2, h3⟩ := step i d e hd hi
  refine ⟨e1, h1, ?_⟩
  rw [h2]; exact h3
/-- all data put into a dict, one behind the other -/
noncomputable def putAll (kvs : List (D × D)) : List (D × D) → List (D × D) := fun l => l.foldl (fun a p => putD a p.1 p.2) kvs
@[simp] theorem putAll_nil (kvs : List (D × D)) : putAll kvs [] = kvs := rfl
theorem putAll_cons (kvs : List (D × D)) (p : D × D) (l : List (D × D)) : putAll kvs (p :: l) = putAll (putD kvs p.1 p.2) l := rfl
theorem putAll_append (kvs : List (D × D)) (l m : List (D × D)) : putAll kvs (l ++ m) = putAll (putAll kvs l) m := List.foldl_append
theorem putAll_len (l : List (D × D)) : ∀ kvs : List (D × D), (putAll kvs l).length ≤ kvs.length + l.length := by
  induction l with
  | nil => intro kvs; simp
  | cons p l ih =>
    intro kvs
    rw [putAll_cons]
    have h1 := ih (putD kvs p.1 p.2)
    have h2 := putD_len kvs p.1 p.2
    rw [List.length_cons]; omega
/-- of keys that are apart: all stand -/
theorem putAll_nodup : ∀ (l kvs : List (D × D)), ((kvs ++ l).map (·.1)).Nodup → putAll kvs l = kvs ++ l
  | [], kvs, _ => by simp
  | p :: l, kvs, h => by
    rw [putAll_cons, putD_new (fun q hq => ?_)]
    · have e1 : kvs ++ p :: l = (kvs ++ [p]) ++ l := by simp
      rw [e1] at h ⊢
      exact putAll_nodup l (kvs ++ [p]) h
    · rw [List.map_append, List.map_cons] at h
      exact (List.nodup_append.mp h).2.2 q.1 (List.mem_map_of_mem hq) p.1 List.mem_cons_self
/-- a store into a dict -/
theorem stoO_dic (kvs : List (D × D)) (k v : D) (h : isKey k = true) (hz : kvs.length < sizeMax) : stoO k (.fz v) (.dic kvs) = some (.dic (putD kvs k v)) := by
  show (if isKey k = true ∧ kvs.length < sizeMax then some (OT.dic (putD kvs k v)) else none) = _
  rw [if_pos ⟨h, hz⟩]
/-- a dict whose keys are tuples is made; keys may come again -/
theorem dcN_map {own : List Nat} {tg : TGt} {mk mv : M OT} {xs : List D} {e : Ev} (gk gv : D → D) (hown : ownOk e own = true) (hr : restE e (wipeE e own) own = e) (hz : xs.length ≤ sizeMax)
    (step : ∀ d ∈ xs, ∃ e1 t u, bindT tg d (wipeE e own) = some e1 ∧ mk e1 = .ok t e1 ∧ mv e1 = .ok u e1 ∧ t.view = gk d ∧ u.view = gv d ∧ isKeyN (gk d) = true ∧ wipeE e1 own = wipeE e own) : dcRunN own tg mk mv xs e = .ok (.din (putAll [] (xs.map fun d => (gk d, gv d)))) e := by
  have go : ∀ (ys : List D) (acc : List (D × D)) (e' : Ev), (∀ d ∈ ys, d ∈ xs) → acc.length + ys.length ≤ sizeMax → wipeE e' own = wipeE e own → ∃ e2, dcGoN own tg mk mv ys acc e' = .ok (putAll acc (ys.map fun d => (gk d, gv d))) e2 ∧ wipeE e2 own = wipeE e own := by
    intro ys
    induction ys with
    | nil => intro acc e' _ _ hw; exact ⟨e', rfl, hw⟩
    | cons d ds ih =>
      intro acc e' hx hl hw
      obtain ⟨e1, t, u, h1, h2, h3, h4, h5, h6, h7⟩ := step d (hx d List.mem_cons_self)
      rw [List.length_cons] at hl
      have eq : dcGoN own tg mk mv (d :: ds) acc e' = dcGoN own tg mk mv ds (putD acc (gk d) (gv d)) e1 := by
        show (match bindT tg d (wipeE e' own) with | none => _ | some e1 => _) = _
        rw [hw, h1]
        show (noX (mk e1)).bind _ = _
        rw [h2]
        show (noX (mv e1)).bind _ = _
        rw [h3]
        show (if isKeyN t.view = true ∧ _ then _ else _) = _
        rw [h4, if_pos ⟨h6, by omega⟩, h5]
      rw [eq]
      have h8 := putD_len acc (gk d) (gv d)
      exact ih _ e1 (fun z hz => hx z (List.mem_cons_of_mem _ hz)) (by omega) h7
  obtain ⟨e2, q1, q2⟩ := go xs [] e (fun _ h => h) (by simpa using hz) rfl
  unfold dcRunN
  rw [hown]
  show (dcGoN own tg mk mv xs [] e).bind _ = _
  rw [q1]
  show R.ok _ (restE e (wipeE e2 own) own) = _
  rw [q2, hr]
end Rx
end

section
/-! simp lemmas for S7 -/
namespace Rx
open PySem
@[simp] theorem semLcO (tg : TGt) (k : ITK) (its : List IE) (c : Option IE) (x : IE) (own : List Nat) : (sem (.lcO tg k its c x own)).1 = M.bind (evs its) fun ts => M.bind (M.lift (itemsOf k (OT.views ts))) fun xs => lcRunO own tg (semOpt c) (sem x).1 xs := rfl
theorem lcO_map1 {j : Nat} {me : M OT} {xs : List D} {e : Ev} (g : D → OT) (own : ownOk e [j] = true) (he : ∀ d ∈ xs, me (e.set j (some (.fz d))) = .ok (g d) (e.set j (some (.fz d)))) :
    lcRunO [j] (.nm j) (M.pure true) me xs e = .ok (.lst (xs.map g)) e := by
  have go : ∀ (ys : List D) (acc : List OT) (x : Slot), (∀ d ∈ ys, d ∈ xs) → ∃ x2, lcGoO [j] (.nm j) (M.pure true) me ys acc (e.set j x) = .ok (acc ++ ys.map g) (e.set j x2) := by
    intro ys
    induction ys with
    | nil => intro acc x _; exact ⟨x, by simp [-R.bind, lcGoO]⟩
    | cons d ds ih =>
      intro acc x hm
      have h1 := he d (hm d List.mem_cons_self)
      obtain ⟨x2, h2⟩ := ih (acc ++ [g d]) (some (.fz d)) fun z hz => hm z (List.mem_cons_of_mem _ hz)
      have e0 : (((e.set j x).set j none).set j (some (.fz d))) = e.set j (some (OT.fz d)) := by rw [List.set_set, List.set_set]
      have eq : lcGoO [j] (.nm j) (M.pure true) me (d :: ds) acc (e.set j x) = (noX (me (e.set j (some (.fz d))))).bind fun t e3 => lcGoO [j] (.nm j) (M.pure true) me ds (acc ++ [t]) e3 := by
        rw [← e0]; rfl
      refine ⟨x2, ?_⟩
      rw [eq, h1]
      simp only [noX_ok]
      show lcGoO _ _ _ _ _ _ _ = _
      rw [h2]
      simp
  obtain ⟨x2, h2⟩ := go xs [] (e.at j) fun _ h => h
  have e1 : e.set j (e.at j) = e := by
    have := set_set_at e j none
    rw [List.set_set] at this; exact this
  rw [e1] at h2
  unfold lcRunO
  rw [own]
  show (lcGoO [j] (.nm j) (M.pure true) me xs [] e).bind _ = _
  rw [h2]
  show R.ok _ (((e.set j x2).set j none).set j (e.at j)) = _
  rw [List.set_set, List.set_set, e1]
  simp
@[simp] theorem run_hkB (jF jR : Nat) (core : (Nat → Nat) → List FcO → List OT → Ev → Option Ev) (e : Ev) : run1 (.hk (hkB jF jR core)) e = (match brwS jF jR core e with
    | none => .bad
    | some e' => .nx e') := by
  show (match (brwS jF jR core e).map fun e' => ((none : Option OT), e') with
    | none => SR.bad
    | some (none, e') => .nx e'
    | some (some t, e') => .ret t e') = _
  cases brwS jF jR core e <;> rfl
end Rx
end

section
/-! simp lemmas: tuples of which more is known -/
namespace Rx
open PySem
@[simp] theorem semWkn (a : IE) : (sem (.wkn a)).1 = M.bind (sem a).1 fun t => M.pure t.wk := rfl
@[simp] theorem tstWkn (a : IE) : (sem (.wkn a)).2 = truthM (.wkn a) (sem (.wkn a)).1 := rfl
@[simp] theorem semTix (a b : IE) : (sem (.tix a b)).1 = M.bind (opd a (sem a).1) fun ra => M.bind (tpM a ra) fun _ => M.bind (opd b (sem b).1) fun rb => M.bind (fin a ra) fun x => M.bind (fin b rb) fun y => M.lift (idxD x y) := rfl
@[simp] theorem tstTix (a b : IE) : (sem (.tix a b)).2 = truthM (.tix a b) (sem (.tix a b)).1 := rfl
@[simp] theorem wk_tpn (xs : List D) : OT.wk (.fz (.tpn xs)) = .fz (.tup xs) := rfl
@[simp] theorem wk_tup (xs : List D) : OT.wk (.fz (.tup xs)) = .fz (.tup xs) := rfl
@[simp] theorem wk_lst (xs : List OT) : OT.wk (.lst xs) = .lst xs := rfl
@[simp] theorem tupN_lst (xs : List D) : tupN [.lst xs] = some (.fz (.tpn xs)) := rfl
theorem tpM_app (x : IE) (r : Option D) (e : Ev) : tpM x r e = (fin x r e).bind fun d e1 => ((match d with
  | .tpn _ => M.pure ()
  | _ => fun _ => R.bad : M Unit) e1) := rfl
end Rx
end

section
/-! k03: what the law draws; conversion, as the law and the program have it -/
namespace K03
open PySem Rx Lw Pg
abbrev tyN (t : List Rt) : D := .tpn (t.map Rt.d)
def rD : Rt := ⟨false, false⟩
theorem right_ok (row : List Nat) (k : Nat) : Ir._law_right.fn [some (box row k)] = .ok (.fz (R6 (drawn row k 6)).d) [some (box row (k + 1))] := by
  have h := drawn_lt row k (m := 6) (by omega)
  generalize hm : drawn row k 6 = m at h
  have hc : m = 0 ∨ m = 1 ∨ m = 2 ∨ m = 3 ∨ m = 4 ∨ m = 5 := by omega
  rcases hc with rfl | rfl | rfl | rfl | rfl | rfl <;> simp [-R.bind, Ir._law_right, fn_def, draw_okI, hm, R6, Rt.d, Rt.s]
theorem rights_ok (row : List Nat) (k n : Nat) (hn : n ≤ 100000) : Ir._law_rights.fn [some (box row k), some (.fz (.int n))] = .ok (.fz (tyN (RS row k n))) [some (box row (k + n)), none] := by
  simp [-R.bind, Ir._law_rights, fn_def, rngO_nat (show n ≤ 8000000 by omega)]
  obtain ⟨acc, e', h1, h2, h3, h4⟩ := lc1_ok (j := 2) (mc := M.pure true) (me := M.bind (evArgs [true] [.var 0]) fun as => callF Ir._law_right.fn as) (xs := rngD 0 n) (e := [some (box row k), some (OT.fz (D.int n)), none])
    (fun i acc e => acc = (RS row k i).map Rt.d ∧ ∃ s, e = [some (box row (k + i)), some (OT.fz (D.int n)), s]) rfl ⟨rfl, none, rfl⟩ (by
      rintro i d acc e hd ⟨rfl, s, rfl⟩
      simp [-R.bind] at hd
      obtain ⟨hi, rfl⟩ := hd
      exact ⟨true, _, rfl, fun _ => ⟨.fz (R6 (drawn row (k + i) 6)).d, [some (box row (k + (i + 1))), some (OT.fz (D.int n)), some (.fz (.int i))], by simp [-R.bind, right_ok, Int.add_assoc], by simp [RS, List.range_succ], _, rfl⟩, fun h => nomatch h⟩)
  simp [-R.bind] at h1 h4
  rw [h1]
  subst h4 h2
  simp [-R.bind]
theorem near_ok (row : List Nat) (k : Nat) (one : List Rt) (hl : one.length ≤ 1000) : ∃ (t : List Rt) (k' : Nat), t.length = one.length ∧ Ir._law_near.fn [some (box row k), some (.fz (tyD one))] = .ok (.fz (tyN t)) [some (box row k'), none] := by
  have h3 := drawn_lt row k (m := 3) (by omega)
  have hr0 := rngO_nat (n := drawn row k 3) (by omega)
  have hd3 := draw_okI row k 3 (by omega)
  rw [show ((3 : Int)).toNat = 3 from rfl] at hd3
  have hlist := list_ty one
  have hr := right_ok row
  have hdr := draw_okI row
  obtain ⟨bl, hbl⟩ : ∃ bl : Nat → List OT, ∀ k, box row k = .lst (bl k) := ⟨fun k => [.fz (.lst (row.map intD)), .fz (intD k)], fun _ => rfl⟩
  simp only [hbl] at hr hdr hd3 ⊢
  simp only [Ir._law_near, fn_def]
  generalize tyD one = od at *
  simp [-R.bind, -List.map_map, hlist, hd3, hr0]
  generalize drawn row k 3 = np at *
  have key := forGo_nx (tg := .nm 3) (body := run [.iff (.cmp .Gt gtD (.bi "len" lenD [(.var 2)]) (.con (.int 0))) [.sto 2 [] (.call "_law_draw" [true, false] Ir._law_draw.fn [(.var 0), (.bi "len" lenD [(.var 2)])]) (.call "_law_right" [true] Ir._law_right.fn [(.var 0)])] []])
    (xs := rngD 0 np) (e := [some (.lst (bl (k + 1))), some (.fz od), some (rtsO one), none])
    (fun i e => ∃ (t : List Rt) (k' : Nat) (s3 : Slot), t.length = one.length ∧ e = [some (.lst (bl k')), some (.fz od), some (rtsO t), s3]) ⟨one, k + 1, none, rfl, rfl⟩ ?_
  · obtain ⟨e', h1, t, k', s3, ht, h2⟩ := key
    refine ⟨t, ht, k', ?_⟩
    rw [h1, h2]
    simp [-R.bind, -List.map_map, flat_rts]
  · rintro i d e hd ⟨t, k', s3, ht, rfl⟩
    refine ⟨_, rfl, ?_⟩
    have hfl := flat_rts t
    have hst := sto_rts t
    have hlen : lenD [.lst (t.map Rt.d)] = some (.fz (.int t.length)) := by simp
    by_cases hz : t.length = 0
    · rw [hz] at hlen
      refine ⟨_, ?_, t, k', some (.fz d), ht, rfl⟩
      generalize rtsO t = to at *
      generalize D.lst (t.map Rt.d) = tl at *
      simp [-R.bind, -List.map_map, hfl, hlen]
    · have hrk := hr k'
      have hdk := hdr (k' + 1) t.length (by omega)
      have hlt := drawn_lt row (k' + 1) (m := t.length) (by omega)
      rw [show ((t.length : Int)).toNat = t.length by omega] at hdk
      generalize R6 (drawn row k' 6) = c at *
      have hs2 := hst _ c hlt
      refine ⟨_, ?_, t.set (drawn row (k' + 1) t.length) c, k' + 1 + 1, some (.fz d), by simp [ht], rfl⟩
      generalize drawn row (k' + 1) t.length = q at *
      have hpos : (0 : Int) < t.length := by omega
      generalize rtsO t = to at *
      generalize rtsO (t.set q c) = to2 at *
      generalize D.lst (t.map Rt.d) = tl at *
      generalize c.d = cd at *
      generalize hn : (t.length : Int) = n at *
      simp [-R.bind, -List.map_map, hfl, hlen, hrk, hdk, hs2, hpos, ofO]
end K03
end

section
/-! k03: conversion; plain forms -/
namespace K03
open PySem Rx Lw Pg
theorem law_within_ok (x y : Rt) : Ir._law_within.fn [some (.fz x.d), some (.fz y.d)] = .ok (.fz (.bl (wi x y))) [none, none] := by
  rcases x with ⟨_ | _, _ | _⟩ <;> rcases y with ⟨_ | _, _ | _⟩ <;> simp [-R.bind, Ir._law_within, fn_def, Rt.d, Rt.s, lcRun, lcGo, ownOk, wipeE, restE, wi]
theorem law_converts_ok : ∀ (n : Nat) (a b : List Rt), (a.length < n ∨ b.length < n) → n ≤ 1000 → Ir._law_convertsN n [some (.fz (tyD a)), some (.fz (tyD b))] = .ok (.fz (.bl (conv a b && (a.length == b.length)))) [none, none]
  | 0, _, _, h, _ => absurd h (by omega)
  | n + 1, a, b, hn, h1000 => by
    unfold Ir._law_convertsN Ir._law_converts
    rw [fn_def]
    by_cases hl : a.length = b.length
    · cases a with
      | nil =>
        cases b with
        | nil => simp [-R.bind, len_ty]
        | cons y b => cases hl
      | cons x a =>
        cases b with
        | nil => cases hl
        | cons y b =>
          simp at hl hn
          have i1 := law_converts_ok n a b (by omega) (by omega)
          have i2 := law_converts_ok n b a (by omega) (by omega)
          have ll : ¬ ((b.length : Int) + 1 = 0) := by omega
          have hw := law_within_ok y x
          simp [hl] at i1 i2
          simp [-R.bind, len_ty, hl, head_ty, tail_ty, in_r, in_w, hw, i1, i2, ll, conv_cons, pb_bind, pb_st, pb_sq, pb_end]
          cases wi y x <;> cases y.r <;> cases y.w <;> cases conv a b <;> cases conv b a <;> rfl
    · have hl2 : ¬ ((a.length : Int) = b.length) := by omega
      simp [-R.bind, len_ty, hl, hl2]
theorem converts_ok (a b : List Rt) (h : a.length < 10) : Ir.converts.fn [some (.fz (tyD a)), some (.fz (tyD b))] = .ok (.fz (.bl (decide (a.length = b.length) && conv a b))) [none, none] := by
  by_cases hl : a.length = b.length
  · have h1 := find_ok 10 a b hl h (by omega)
    have h2 := conv_find a b hl
    have h3 : isD (foundD (find a b)) .non = some (conv a b) := by
      cases hf : find a b with
      | none => rw [h2.mp hf]; rfl
      | some q =>
        have : conv a b = false := by
          cases hc : conv a b with
          | false => rfl
          | true => rw [h2.mpr hc] at hf; cases hf
        rw [this]; rfl
    have hl2 : (a.length : Int) = b.length := by omega
    simp [-R.bind, Ir.converts, fn_def, len_ty, hl, h1, h3, pb_bind, pb_st, pb_end]
  · have hl2 : ¬ ((a.length : Int) = b.length) := by omega
    have hl3 : ((a.length : Int) == b.length) = false := by simpa using hl2
    simp [-R.bind, Ir.converts, fn_def, len_ty, hl, hl3, pb_bind, pb_st, pb_end]
theorem alike_ok (a b : List Rt) (h : a.length < 10) (h2 : b.length < 10) : Ir.are_alike.fn [some (.fz (tyD a)), some (.fz (tyD b))] = .ok (.fz (.bl (decide (a.length = b.length) && conv a b && conv b a))) [none, none] := by
  have c1 := converts_ok a b h
  have c2 := converts_ok b a h2
  generalize tyD a = ad at *
  generalize tyD b = bd at *
  by_cases hl : a.length = b.length
  · rw [decide_eq_true hl, Bool.true_and] at c1 ⊢
    rw [decide_eq_true hl.symm, Bool.true_and] at c2
    generalize conv a b = u at *
    generalize conv b a = v at *
    cases u <;> cases v <;> simp [-R.bind, Ir.are_alike, fn_def, c1, c2]
  · have hl2 : ¬ b.length = a.length := fun e => hl e.symm
    simp [-R.bind, Ir.are_alike, fn_def, c1, c2, hl, hl2]
theorem law_is_ok (a b : Bool) : Ir._law_is.fn [some (.fz (.bl a)), some (.fz (.bl b))] = .ok (.fz (.bl (a == b))) [none, none] := by
  cases a <;> cases b <;> rfl
/-- the plain form -/
def pl : List Rt → List Rt
  | [] => []
  | x :: r => if x = rD then List.replicate (r.length + 1) rD else x :: pl r
theorem pl_len : ∀ t : List Rt, (pl t).length = t.length
  | [] => rfl
  | x :: t => by
    rw [pl]; split
    · simp
    · simp [pl_len t]
theorem conv_rd (a b : List Rt) : conv (rD :: a) (rD :: b) = true := by rw [conv_cons]; rfl
theorem pl_conv : ∀ t : List Rt, conv t (pl t) = true ∧ conv (pl t) t = true
  | [] => ⟨conv_nil, conv_nil⟩
  | x :: t => by
    rw [pl]; split
    · next h => subst h; exact ⟨conv_rd _ _, conv_rd _ _⟩
    · obtain ⟨h1, h2⟩ := pl_conv t
      rw [conv_cons, conv_cons, wi_refl', h1, h2]
      cases x.r <;> cases x.w <;> exact ⟨rfl, rfl⟩
theorem pl_rep : ∀ n : Nat, pl (List.replicate n rD) = List.replicate n rD
  | 0 => rfl
  | n + 1 => by rw [List.replicate_succ, pl, if_pos rfl, List.length_replicate]; rfl
theorem pl_pl : ∀ t : List Rt, pl (pl t) = pl t
  | [] => rfl
  | x :: t => by
    rw [pl]; split
    · rw [pl_rep]
    · next h => rw [pl, if_neg h, pl_pl t]
theorem plain_anti : ∀ (a b : List Rt), a.length = b.length → pl a = a → pl b = b → conv a b = true → conv b a = true → a = b
  | .nil, .nil, _, _, _, _, _ => rfl
  | x :: a, y :: b, hl, ha, hb, p, q => by
    have hl2 : a.length = b.length := by simpa using hl
    rw [conv_cons] at p q
    simp only [Bool.and_eq_true, Bool.or_eq_true, Bool.not_eq_true'] at p q
    have hxy : x = y := by
      obtain ⟨⟨p1, _⟩, _⟩ := p
      obtain ⟨⟨q1, _⟩, _⟩ := q
      revert p1 q1
      rcases x with ⟨_ | _, _ | _⟩ <;> rcases y with ⟨_ | _, _ | _⟩ <;> simp [wi]
    subst hxy
    by_cases hd : x = rD
    · rw [pl, if_pos hd] at ha hb
      rw [← ha, ← hb, hl2]
    · rw [pl, if_neg hd] at ha hb
      have ha := (List.cons.inj ha).2
      have hb := (List.cons.inj hb).2
      have hc : conv a b = true ∧ conv b a = true := by
        obtain ⟨⟨_, p2⟩, p3⟩ := p
        obtain ⟨⟨_, q2⟩, q3⟩ := q
        revert hd p2 p3 q2 q3
        rcases x with ⟨_ | _, _ | _⟩ <;> simp [rD] <;> intros <;> simp_all
      rw [plain_anti a b hl2 ha hb hc.1 hc.2]
end K03
end

section
/-! k03: the plain form, as the program and the law make it -/
namespace K03
open PySem Rx Lw Pg
theorem d45 : (.str [45] : D) = rD.d := rfl
theorem rt_inj {x y : Rt} (h : x.s = y.s) : x = y := by
  rcases x with ⟨_ | _, _ | _⟩ <;> rcases y with ⟨_ | _, _ | _⟩ <;> first | rfl | cases h
theorem eqok_r (n : Nat) (l : List Rt) : D.eqoks n (l.map Rt.d) = true := by
  induction l with
  | nil => cases n <;> rfl
  | cons x l ih => show (D.eqok n x.d && _) = true; rw [ih]; cases n <;> rfl
theorem in_seq (l : List Rt) : inSeq (.str [45]) (l.map Rt.d) = some (decide (rD ∈ l)) := by
  rw [inSeq_ok rfl (eqok_r 60 l)]
  congr 1
  induction l with
  | nil => rfl
  | cons x l ih =>
    rw [List.map_cons, List.any_cons, ih]
    have : D.eqv x.d (.str [45]) = decide (rD = x) := by
      show (x.s == [45]) = _
      rcases x with ⟨_ | _, _ | _⟩ <;> rfl
    rw [this, ← Bool.decide_or]
    exact decide_eq_decide.mpr List.mem_cons.symm
theorem in_ty (t : List Rt) : inD (.str [45]) (tyD t) = some (decide (rD ∈ t)) := in_seq t
theorem in_lst (t : List Rt) : inD (.str [45]) (.lst (t.map Rt.d)) = some (decide (rD ∈ t)) := in_seq t
theorem nin_ty (t : List Rt) : ninD (.str [45]) (tyD t) = some (!decide (rD ∈ t)) := by unfold ninD; rw [in_ty]; rfl
theorem strsG_d (l : List Rt) : strsG (l.map Rt.d) = true := by
  induction l with
  | nil => rfl
  | cons x l ih => exact ih
theorem idx_d : ∀ {t : List Rt}, rD ∈ t → idxG [45] (t.map Rt.d) = some (t.idxOf rD)
  | x :: t, h => by
    show (if x.s = [45] then (if strsG (t.map Rt.d) = true then some 0 else none) else (idxG [45] (t.map Rt.d)).map (· + 1)) = _
    by_cases e : x = rD
    · subst e
      rw [if_pos (show rD.s = [45] from rfl), if_pos (strsG_d t)]; simp
    · have e2 : ¬ x.s = [45] := fun z => e (rt_inj z)
      rw [if_neg e2, idx_d (by rcases List.mem_cons.mp h with h | h; exact absurd h.symm e; exact h), List.idxOf_cons]
      have : (x == rD) = false := by simpa using e
      rw [this]; rfl
theorem pl_none : ∀ {t : List Rt}, rD ∉ t → pl t = t
  | [], _ => rfl
  | x :: t, h => by
    rw [pl, if_neg (fun e => h (by rw [e]; exact List.mem_cons_self)), pl_none fun z => h (List.mem_cons_of_mem _ z)]
theorem pl_idx : ∀ {t : List Rt}, rD ∈ t → pl t = t.take (t.idxOf rD) ++ List.replicate (t.length - t.idxOf rD) rD
  | x :: t, h => by
    by_cases e : x = rD
    · subst e
      have : (rD :: t).idxOf rD = 0 := by simp
      rw [this, pl, if_pos rfl]; rfl
    · have : (x :: t).idxOf rD = t.idxOf rD + 1 := by
        rw [List.idxOf_cons]
        have : (x == rD) = false := by simpa using e
        rw [this]; rfl
      rw [this, pl, if_neg e, pl_idx (by rcases List.mem_cons.mp h with h | h; exact absurd h.symm e; exact h)]
      simp
theorem pl_snoc : ∀ (a : List Rt) (x : Rt), pl (a ++ [x]) = pl a ++ [if rD ∈ a then rD else x]
  | [], x => by
    by_cases e : x = rD
    · subst e; rfl
    · simp [pl, e]
  | y :: a, x => by
    by_cases e : y = rD
    · subst e
      rw [List.cons_append, pl, if_pos rfl, pl, if_pos rfl, if_pos List.mem_cons_self, List.length_append]
      show List.replicate (a.length + 1 + 1) rD = _
      rw [List.replicate_succ']
    · rw [List.cons_append, pl, if_neg e, pl, if_neg e, pl_snoc a x]
      have : (rD ∈ y :: a) ↔ rD ∈ a := ⟨fun h => by rcases List.mem_cons.mp h with h | h; exact absurd h.symm e; exact h, List.mem_cons_of_mem _⟩
      simp only [this]; rfl
theorem mem_pl : ∀ {a : List Rt}, rD ∈ pl a ↔ rD ∈ a
  | [] => Iff.rfl
  | x :: a => by
    by_cases e : x = rD
    · subst e; rw [pl, if_pos rfl]; simp
    · rw [pl, if_neg e, List.mem_cons, List.mem_cons, mem_pl (a := a)]
theorem cut_to (l : List D) (k : Nat) (h : k ≤ l.length) : cut l none (some (k : Int)) = l.take k := by
  show (l.take (min k l.length)).drop 0 = _
  rw [Nat.min_eq_left h]; rfl
theorem plain_ok (t : List Rt) (hl : t.length ≤ 900) : Ir.plain.fn [some (.fz (tyN t))] = .ok (.fz (tyD (pl t))) [none] := by
  have hn := in_ty t
  have hw : OT.wk (.fz (tyN t)) = .fz (tyD t) := rfl
  simp only [Ir.plain, fn_def]
  by_cases h : rD ∈ t
  · rw [decide_eq_true h] at hn
    have hi := idx_d h
    have hlt := List.idxOf_lt_length_of_mem h
    have hpl := pl_idx h
    generalize t.idxOf rD = i at *
    have hsl : slD (tyD t) none (some (i : Int)) = some (.fz (.tup ((t.take i).map Rt.d))) := by
      show some (OT.fz (.tup (cut _ _ _))) = _
      rw [cut_to _ _ (by rw [List.length_map]; omega), List.map_take]
    have hlen := len_ty t
    have hmul : mulD (.tup [.str [45]]) (.int ((t.length : Int) - i)) = some (.fz (.tup ((List.replicate (t.length - i) rD).map Rt.d))) := by
      obtain ⟨n, hn⟩ : ∃ n : Nat, (t.length : Int) - i = n := ⟨t.length - i, by omega⟩
      have hn2 : t.length - i = n := by omega
      rw [hn, hn2]
      have hn0 : 1 ≤ n := by omega
      have e1 : (List.replicate n ([.str [45]] : List D)).flatten = (List.replicate n rD).map Rt.d := by
        clear hn hn2 hn0
        induction n with
        | zero => rfl
        | succ n ih => rw [List.replicate_succ, List.flatten_cons, ih, List.replicate_succ]; rfl
      by_cases h1 : n = 1
      · subst h1; rfl
      · show (if (n : Int) = 1 then some (OT.fz (.tup [.str [45]])) else if ([.str [45]] : List D) ≠ [] ∧ 2 ≤ (n : Int) ∧ (n : Int) ≤ 1000 ∧ ([.str [45]] : List D).length ≤ 1000 then some (OT.fz (.tup (List.replicate ((n : Int)).toNat ([.str [45]] : List D)).flatten)) else none) = _
        have c1 : ¬ ((n : Int) = 1) := by omega
        rw [if_neg c1, if_pos ⟨by simp, by omega, by omega, by simp⟩]
        rw [show ((n : Int)).toNat = n by omega, e1]
    have hadd : addD (.tup ((t.take i).map Rt.d)) (.tup ((List.replicate (t.length - i) rD).map Rt.d)) = some (.fz (tyD (pl t))) := by
      rw [addD_tup, if_pos (by simp; unfold sizeMax; omega), hpl, tyD, List.map_append]
    have hix : idxD (tyN t) (.str [45]) = some (.fz (.int i)) := by
      show (idxG [45] (t.map Rt.d)).map _ = _
      rw [hi]; rfl
    generalize (List.replicate (t.length - i) rD).map Rt.d = bb at *
    generalize (t.take i).map Rt.d = aa at *
    generalize tyD (pl t) = pd at *
    generalize tyD t = td at *
    generalize hnl : (t.length : Int) = n at *
    simp [-R.bind, -addD_tup, -mulD, hw, hn, tpM_app, hix, hsl, hlen, hmul, hadd]
  · rw [decide_eq_false h] at hn
    rw [pl_none h]
    generalize tyN t = tn at *
    generalize tyD t = td at *
    simp [-R.bind, hw, hn]
theorem pl_len' (t : List Rt) : (pl t).length = t.length := pl_len t
theorem app_rts (a : List Rt) (x : Rt) (h : a.length < 1000) : appO (.fz x.d) (rtsO a) = some (rtsO (a ++ [x])) := by
  have h2 : (a.map fun x => OT.fz x.d).length < sizeMax := by rw [List.length_map]; unfold sizeMax; omega
  show (if (a.map fun x => OT.fz x.d).length < sizeMax then some (OT.lst ((a.map fun x => OT.fz x.d) ++ [.fz x.d])) else none) = _
  rw [if_pos h2]
  simp
theorem law_plain_ok (t : List Rt) (hl : t.length ≤ 900) : Ir._law_plain.fn [some (.fz (tyD t))] = .ok (.fz (tyD (pl t))) [none] := by
  have hit : itemsOf .val [tyD t] = some (t.map Rt.d) := rfl
  simp only [Ir._law_plain, fn_def]
  generalize hod : tyD t = od at *
  simp [-R.bind, -List.map_map, hit]
  have key := forGo_nx (tg := .nm 2) (body := run [.iff (.cmp .In inD (.con (.str [45])) (.var 1)) [.asg 2 (.con (.str [45]))] [], .app 1 [] (.var 2)]) (xs := t.map Rt.d) (e := [some (.fz od), some (.lst []), none])
    (fun i e => ∃ s2 : Slot, e = [some (.fz od), some (rtsO (pl (t.take i))), s2]) ⟨none, rfl⟩ ?_
  · obtain ⟨e', h1, s2, h2⟩ := key
    rw [h1, h2, List.length_map, List.take_length]
    simp [-R.bind, -List.map_map, flat_rts, tup_ty]
    rfl
  · rintro i d e hd ⟨s2, rfl⟩
    rw [List.getElem?_map] at hd
    obtain ⟨x, hx, rfl⟩ := Option.map_eq_some_iff.mp hd
    refine ⟨_, rfl, ?_⟩
    have hs : pl (t.take (i + 1)) = pl (t.take i) ++ [if rD ∈ pl (t.take i) then rD else x] := by
      rw [List.take_add_one, hx]
      show pl (t.take i ++ [x]) = _
      rw [pl_snoc]
      simp only [mem_pl]
    have hl2 : (pl (t.take i)).length < 1000 := by rw [pl_len, List.length_take]; omega
    rw [hs]
    generalize pl (t.take i) = a at *
    have hin := in_lst a
    have hfl := flat_rts a
    have ha1 := app_rts a rD hl2
    have ha2 := app_rts a x hl2
    generalize D.lst (a.map Rt.d) = al at *
    rw [← d45] at ha1
    by_cases h : rD ∈ a
    · rw [decide_eq_true h] at hin
      rw [if_pos h]
      refine ⟨_, ?_, some (.fz (.str [45])), rfl⟩
      simp only [rtsO] at hfl ha1 ha2 ⊢
      generalize (a.map fun x => OT.fz x.d) = ao at *
      generalize ((a ++ [rD]).map fun x => OT.fz x.d) = a2 at *
      generalize x.d = xd at *
      simp [-R.bind, -appO, hfl, hin, ha1, ofO]
    · rw [decide_eq_false h] at hin
      rw [if_neg h]
      refine ⟨_, ?_, some (.fz x.d), rfl⟩
      simp only [rtsO] at hfl ha1 ha2 ⊢
      generalize (a.map fun x => OT.fz x.d) = ao at *
      generalize ((a ++ [x]).map fun x => OT.fz x.d) = a2 at *
      generalize x.d = xd at *
      simp [-R.bind, -appO, hfl, hin, ha2, ofO]
end K03
end

section
set_option maxHeartbeats 4000000
namespace K03
open PySem Rx Lw Pg
theorem eqok_ty (n : Nat) (t : List Rt) : D.eqok (n + 1) (tyD t) = true := eqok_r n t
theorem eqv_ty : ∀ (a b : List Rt), D.eqv (tyD a) (tyD b) = decide (a = b)
  | [], [] => rfl
  | [], y :: b => by simp [tyD, D.eqv, D.eqvs]
  | x :: a, [] => by simp [tyD, D.eqv, D.eqvs]
  | x :: a, y :: b => by
    have ih := eqv_ty a b
    simp only [tyD, D.eqv] at ih
    show (D.eqv x.d y.d && D.eqvs (a.map Rt.d) (b.map Rt.d)) = _
    rw [ih]
    show ((x.s == y.s) && _) = _
    by_cases h : x = y
    · subst h; simp
    · have : (x.s == y.s) = false := by simpa using fun e => h (rt_inj e)
      rw [this]; simp [h]
theorem eq_ty (a b : List Rt) : eqD (tyD a) (tyD b) = some (decide (a = b)) := by rw [eqD_ok (eqok_ty 59 a) (eqok_ty 59 b), eqv_ty]
theorem ne_ty (a b : List Rt) : neD (tyD a) (tyD b) = some (!decide (a = b)) := by rw [neD_ok (eqok_ty 59 a) (eqok_ty 59 b), eqv_ty]
def cv (a b : List Rt) : Bool := decide (a.length = b.length) && conv a b
theorem cv_refl (a : List Rt) : cv a a = true := by unfold cv; rw [conv_refl']; simp
theorem cv_trans (a b c : List Rt) (h1 : cv a b = true) (h2 : cv b c = true) : cv a c = true := by
  unfold cv at *
  simp only [Bool.and_eq_true, decide_eq_true_eq] at *
  exact ⟨h1.1.trans h2.1, conv_trans' a b c h1.1 h2.1 h1.2 h2.2⟩
theorem cv_both (a b : List Rt) : (cv a b && cv b a) = decide (pl a = pl b) := by
  by_cases h : pl a = pl b
  · have hl : a.length = b.length := by rw [← pl_len a, ← pl_len b, h]
    have ha := pl_conv a
    have hb := pl_conv b
    have h1 : conv a b = true := conv_trans' a (pl a) b (pl_len a).symm (by rw [pl_len]; exact hl) ha.1 (by rw [h]; exact hb.2)
    have h2 : conv b a = true := conv_trans' b (pl b) a (pl_len b).symm (by rw [pl_len]; exact hl.symm) hb.1 (by rw [← h]; exact ha.2)
    unfold cv
    rw [h1, h2, decide_eq_true h, decide_eq_true hl, decide_eq_true hl.symm]; rfl
  · rw [decide_eq_false h]
    cases h1 : cv a b with
    | false => rfl
    | true =>
      cases h2 : cv b a with
      | false => rfl
      | true =>
        exfalso
        apply h
        unfold cv at h1 h2
        simp only [Bool.and_eq_true, decide_eq_true_eq] at h1 h2
        have ha := pl_conv a
        have hb := pl_conv b
        have hl := h1.1
        refine plain_anti (pl a) (pl b) (by rw [pl_len, pl_len]; exact hl) (pl_pl a) (pl_pl b) ?_ ?_
        · exact conv_trans' _ b _ (by rw [pl_len]; exact hl) (by rw [pl_len]) (conv_trans' _ a _ (pl_len a) hl ha.2 h1.2) hb.1
        · exact conv_trans' _ a _ (by rw [pl_len]; exact hl.symm) (by rw [pl_len]) (conv_trans' _ b _ (pl_len b) hl.symm hb.2 h2.2) ha.1
theorem cv_ok (a b : List Rt) (h : a.length < 10) : Ir.converts.fn [some (.fz (tyD a)), some (.fz (tyD b))] = .ok (.fz (.bl (cv a b))) [none, none] := converts_ok a b h
theorem lcv_ok (a b : List Rt) (h : a.length < 10) : Ir._law_convertsN 10 [some (.fz (tyD a)), some (.fz (tyD b))] = .ok (.fz (.bl (cv a b))) [none, none] := by
  rw [law_converts_ok 10 a b (.inl h) (by omega)]
  have : (conv a b && (a.length == b.length)) = cv a b := by
    unfold cv
    rw [Bool.and_comm]
    congr 1
  rw [this]
theorem al_ok (a b : List Rt) (h : a.length < 10) (h2 : b.length < 10) : Ir.are_alike.fn [some (.fz (tyD a)), some (.fz (tyD b))] = .ok (.fz (.bl (cv a b && cv b a))) [none, none] := by
  rw [alike_ok a b h h2]
  have : (decide (a.length = b.length) && conv a b && conv b a) = (cv a b && cv b a) := by
    unfold cv
    by_cases e : a.length = b.length
    · rw [decide_eq_true e, decide_eq_true e.symm]; simp
    · rw [decide_eq_false e]; simp
  rw [this]
def pD (p : List Rt × List Rt) : D := .tup [tyN p.1, tyN p.2]
theorem neb (a b : Bool) : neD (.bl a) (.bl b) = some (a != b) := by cases a <;> cases b <;> rfl
theorem inner {an bn ad bd pd pa pb : D} {u v : Bool} (i0 : ixK pd (.int 0) = some an) (i1 : ixK pd (.int 1) = some bn) (wa : OT.wk (.fz an) = .fz ad) (wb : OT.wk (.fz bn) = .fz bd)
    (c1 : Ir.converts.fn [some (.fz ad), some (.fz bd)] = .ok (.fz (.bl u)) [none, none]) (l1 : Ir._law_convertsN 10 [some (.fz ad), some (.fz bd)] = .ok (.fz (.bl u)) [none, none]) (l2 : Ir._law_convertsN 10 [some (.fz bd), some (.fz ad)] = .ok (.fz (.bl v)) [none, none])
    (al : Ir.are_alike.fn [some (.fz ad), some (.fz bd)] = .ok (.fz (.bl (u && v))) [none, none]) (q1 : Ir.plain.fn [some (.fz an)] = .ok (.fz pa) [none]) (q2 : Ir.plain.fn [some (.fz bn)] = .ok (.fz pb) [none]) (he : eqD pa pb = some (u && v))
    (li : ∀ a, Ir._law_is.fn [some (.fz (.bl a)), some (.fz (.bl a))] = .ok (.fz (.bl true)) [none, none]) (s0 s1 s2 s3 s4 s5 s7 : Slot) :
    run [.iff (.nt (.call "_law_is" [false, false] Ir._law_is.fn [(.call "converts" [false, false] Ir.converts.fn [(.wkn (.ix (.var 6) (.con (.int 0)))), (.wkn (.ix (.var 6) (.con (.int 1))))]), (.call "_law_converts" [false, false] (Ir._law_convertsN 10) [(.wkn (.ix (.var 6) (.con (.int 0)))), (.wkn (.ix (.var 6) (.con (.int 1))))])])) [.ret (.con (.bl false))] [], .asg 7 (.und [(.call "_law_converts" [false, false] (Ir._law_convertsN 10) [(.wkn (.ix (.var 6) (.con (.int 0)))), (.wkn (.ix (.var 6) (.con (.int 1))))]), (.call "_law_converts" [false, false] (Ir._law_convertsN 10) [(.wkn (.ix (.var 6) (.con (.int 1)))), (.wkn (.ix (.var 6) (.con (.int 0))))])]), .iff (.nt (.call "_law_is" [false, false] Ir._law_is.fn [(.call "are_alike" [false, false] Ir.are_alike.fn [(.wkn (.ix (.var 6) (.con (.int 0)))), (.wkn (.ix (.var 6) (.con (.int 1))))]), (.var 7)])) [.ret (.con (.bl false))] [], .iff (.cmp .NotEq neD (.var 7) (.cmp .Eq eqD (.call "plain" [false] Ir.plain.fn [(.ix (.var 6) (.con (.int 0)))]) (.call "plain" [false] Ir.plain.fn [(.ix (.var 6) (.con (.int 1)))]))) [.ret (.con (.bl false))] []] [s0, s1, s2, s3, s4, s5, some (.fz pd), s7] = .nx [s0, s1, s2, s3, s4, s5, some (.fz pd), some (.fz (.bl (u && v)))] := by
  cases u <;> cases v <;> simp [-R.bind, i0, i1, wa, wb, c1, l1, l2, al, q1, q2, he, li, neb]
theorem pairs_ok (ps : List (List Rt × List Rt)) (hps : ∀ p ∈ ps, p.1.length < 10 ∧ p.2.length < 10) (s0 s1 s2 s3 s4 s5 s6 s7 : Slot) : ∃ s6' s7',
    forGo (.nm 6) (run [.iff (.nt (.call "_law_is" [false, false] Ir._law_is.fn [(.call "converts" [false, false] Ir.converts.fn [(.wkn (.ix (.var 6) (.con (.int 0)))), (.wkn (.ix (.var 6) (.con (.int 1))))]), (.call "_law_converts" [false, false] (Ir._law_convertsN 10) [(.wkn (.ix (.var 6) (.con (.int 0)))), (.wkn (.ix (.var 6) (.con (.int 1))))])])) [.ret (.con (.bl false))] [], .asg 7 (.und [(.call "_law_converts" [false, false] (Ir._law_convertsN 10) [(.wkn (.ix (.var 6) (.con (.int 0)))), (.wkn (.ix (.var 6) (.con (.int 1))))]), (.call "_law_converts" [false, false] (Ir._law_convertsN 10) [(.wkn (.ix (.var 6) (.con (.int 1)))), (.wkn (.ix (.var 6) (.con (.int 0))))])]), .iff (.nt (.call "_law_is" [false, false] Ir._law_is.fn [(.call "are_alike" [false, false] Ir.are_alike.fn [(.wkn (.ix (.var 6) (.con (.int 0)))), (.wkn (.ix (.var 6) (.con (.int 1))))]), (.var 7)])) [.ret (.con (.bl false))] [], .iff (.cmp .NotEq neD (.var 7) (.cmp .Eq eqD (.call "plain" [false] Ir.plain.fn [(.ix (.var 6) (.con (.int 0)))]) (.call "plain" [false] Ir.plain.fn [(.ix (.var 6) (.con (.int 1)))]))) [.ret (.con (.bl false))] []]) (ps.map pD) [s0, s1, s2, s3, s4, s5, s6, s7] = .nx [s0, s1, s2, s3, s4, s5, s6', s7'] := by
  have key := forGo_nx (tg := .nm 6) (body := run [.iff (.nt (.call "_law_is" [false, false] Ir._law_is.fn [(.call "converts" [false, false] Ir.converts.fn [(.wkn (.ix (.var 6) (.con (.int 0)))), (.wkn (.ix (.var 6) (.con (.int 1))))]), (.call "_law_converts" [false, false] (Ir._law_convertsN 10) [(.wkn (.ix (.var 6) (.con (.int 0)))), (.wkn (.ix (.var 6) (.con (.int 1))))])])) [.ret (.con (.bl false))] [], .asg 7 (.und [(.call "_law_converts" [false, false] (Ir._law_convertsN 10) [(.wkn (.ix (.var 6) (.con (.int 0)))), (.wkn (.ix (.var 6) (.con (.int 1))))]), (.call "_law_converts" [false, false] (Ir._law_convertsN 10) [(.wkn (.ix (.var 6) (.con (.int 1)))), (.wkn (.ix (.var 6) (.con (.int 0))))])]), .iff (.nt (.call "_law_is" [false, false] Ir._law_is.fn [(.call "are_alike" [false, false] Ir.are_alike.fn [(.wkn (.ix (.var 6) (.con (.int 0)))), (.wkn (.ix (.var 6) (.con (.int 1))))]), (.var 7)])) [.ret (.con (.bl false))] [], .iff (.cmp .NotEq neD (.var 7) (.cmp .Eq eqD (.call "plain" [false] Ir.plain.fn [(.ix (.var 6) (.con (.int 0)))]) (.call "plain" [false] Ir.plain.fn [(.ix (.var 6) (.con (.int 1)))]))) [.ret (.con (.bl false))] []]) (xs := ps.map pD) (e := [s0, s1, s2, s3, s4, s5, s6, s7])
    (fun _ e => ∃ s6 s7 : Slot, e = [s0, s1, s2, s3, s4, s5, s6, s7]) ⟨s6, s7, rfl⟩ ?_
  · obtain ⟨e', h1, s6', s7', h2⟩ := key
    exact ⟨s6', s7', by rw [h1, h2]⟩
  · rintro i d e hd ⟨s6, s7, rfl⟩
    rw [List.getElem?_map] at hd
    obtain ⟨p, hp, rfl⟩ := Option.map_eq_some_iff.mp hd
    obtain ⟨h1, h2⟩ := hps p (List.mem_of_getElem? hp)
    refine ⟨_, rfl, _, inner (an := tyN p.1) (bn := tyN p.2) (u := cv p.1 p.2) (v := cv p.2 p.1) rfl rfl rfl rfl (cv_ok _ _ h1) (lcv_ok _ _ h1) (lcv_ok _ _ h2) (al_ok _ _ h1 h2) (plain_ok _ (by omega)) (plain_ok _ (by omega)) ?_ (fun a => ?_) s0 s1 s2 s3 s4 s5 s7, _, _, rfl⟩
    · rw [eq_ty, cv_both]
    · have := law_is_ok a a
      rw [this]; cases a <;> rfl
theorem x5 {an bn cn : D} (lk b : OT) (s2 s6 s7 : Slot) : run1 (.for_ (.nm 6) .val [(.lst [(.tup [(.var 3), (.var 4)]), (.tup [(.var 4), (.var 3)]), (.tup [(.var 4), (.var 5)]), (.tup [(.var 3), (.var 5)]), (.tup [(.var 3), (.var 3)])])] [.iff (.nt (.call "_law_is" [false, false] Ir._law_is.fn [(.call "converts" [false, false] Ir.converts.fn [(.wkn (.ix (.var 6) (.con (.int 0)))), (.wkn (.ix (.var 6) (.con (.int 1))))]), (.call "_law_converts" [false, false] (Ir._law_convertsN 10) [(.wkn (.ix (.var 6) (.con (.int 0)))), (.wkn (.ix (.var 6) (.con (.int 1))))])])) [.ret (.con (.bl false))] [], .asg 7 (.und [(.call "_law_converts" [false, false] (Ir._law_convertsN 10) [(.wkn (.ix (.var 6) (.con (.int 0)))), (.wkn (.ix (.var 6) (.con (.int 1))))]), (.call "_law_converts" [false, false] (Ir._law_convertsN 10) [(.wkn (.ix (.var 6) (.con (.int 1)))), (.wkn (.ix (.var 6) (.con (.int 0))))])]), .iff (.nt (.call "_law_is" [false, false] Ir._law_is.fn [(.call "are_alike" [false, false] Ir.are_alike.fn [(.wkn (.ix (.var 6) (.con (.int 0)))), (.wkn (.ix (.var 6) (.con (.int 1))))]), (.var 7)])) [.ret (.con (.bl false))] [], .iff (.cmp .NotEq neD (.var 7) (.cmp .Eq eqD (.call "plain" [false] Ir.plain.fn [(.ix (.var 6) (.con (.int 0)))]) (.call "plain" [false] Ir.plain.fn [(.ix (.var 6) (.con (.int 1)))]))) [.ret (.con (.bl false))] []]) [some lk, some b, s2, some (.fz an), some (.fz bn), some (.fz cn), s6, s7] = forGo (.nm 6) (run [.iff (.nt (.call "_law_is" [false, false] Ir._law_is.fn [(.call "converts" [false, false] Ir.converts.fn [(.wkn (.ix (.var 6) (.con (.int 0)))), (.wkn (.ix (.var 6) (.con (.int 1))))]), (.call "_law_converts" [false, false] (Ir._law_convertsN 10) [(.wkn (.ix (.var 6) (.con (.int 0)))), (.wkn (.ix (.var 6) (.con (.int 1))))])])) [.ret (.con (.bl false))] [], .asg 7 (.und [(.call "_law_converts" [false, false] (Ir._law_convertsN 10) [(.wkn (.ix (.var 6) (.con (.int 0)))), (.wkn (.ix (.var 6) (.con (.int 1))))]), (.call "_law_converts" [false, false] (Ir._law_convertsN 10) [(.wkn (.ix (.var 6) (.con (.int 1)))), (.wkn (.ix (.var 6) (.con (.int 0))))])]), .iff (.nt (.call "_law_is" [false, false] Ir._law_is.fn [(.call "are_alike" [false, false] Ir.are_alike.fn [(.wkn (.ix (.var 6) (.con (.int 0)))), (.wkn (.ix (.var 6) (.con (.int 1))))]), (.var 7)])) [.ret (.con (.bl false))] [], .iff (.cmp .NotEq neD (.var 7) (.cmp .Eq eqD (.call "plain" [false] Ir.plain.fn [(.ix (.var 6) (.con (.int 0)))]) (.call "plain" [false] Ir.plain.fn [(.ix (.var 6) (.con (.int 1)))]))) [.ret (.con (.bl false))] []]) [.tup [an, bn], .tup [bn, an], .tup [bn, cn], .tup [an, cn], .tup [an, an]] [some lk, some b, s2, some (.fz an), some (.fz bn), some (.fz cn), s6, s7] := by
  rw [run_for]
  simp [-R.bind]
theorem x6 {an bn cn ad bd cd : D} {u v w : Bool} (wa : OT.wk (.fz an) = .fz ad) (wb : OT.wk (.fz bn) = .fz bd) (wc : OT.wk (.fz cn) = .fz cd) (c1 : Ir.converts.fn [some (.fz ad), some (.fz bd)] = .ok (.fz (.bl u)) [none, none]) (c2 : Ir.converts.fn [some (.fz bd), some (.fz cd)] = .ok (.fz (.bl v)) [none, none]) (c3 : Ir.converts.fn [some (.fz ad), some (.fz cd)] = .ok (.fz (.bl w)) [none, none])
    (h : u = true → v = true → w = true) (s0 s1 s2 s6 s7 : Slot) : run1 (.iff (.und [(.call "converts" [false, false] Ir.converts.fn [(.wkn (.var 3)), (.wkn (.var 4))]), (.call "converts" [false, false] Ir.converts.fn [(.wkn (.var 4)), (.wkn (.var 5))]), (.nt (.call "converts" [false, false] Ir.converts.fn [(.wkn (.var 3)), (.wkn (.var 5))]))]) [.ret (.con (.bl false))] []) [s0, s1, s2, some (.fz an), some (.fz bn), some (.fz cn), s6, s7] = .nx [s0, s1, s2, some (.fz an), some (.fz bn), some (.fz cn), s6, s7] := by
  cases u <;> cases v <;> cases w <;> first | (exact absurd (h rfl rfl) Bool.false_ne_true) | simp [-R.bind, wa, wb, wc, c1, c2, c3]
theorem x7 {an ad pd : D} (wa : OT.wk (.fz an) = .fz ad) (q1 : Ir.plain.fn [some (.fz an)] = .ok (.fz pd) [none]) (q2 : Ir._law_plain.fn [some (.fz ad)] = .ok (.fz pd) [none]) (hn : neD pd pd = some false) (c1 : Ir.converts.fn [some (.fz ad), some (.fz ad)] = .ok (.fz (.bl true)) [none, none])
    (s0 s1 s2 s4 s5 s6 s7 : Slot) : run1 (.iff (.orr [(.cmp .NotEq neD (.call "plain" [false] Ir.plain.fn [(.var 3)]) (.call "_law_plain" [false] Ir._law_plain.fn [(.wkn (.var 3))])), (.nt (.call "converts" [false, false] Ir.converts.fn [(.wkn (.var 3)), (.wkn (.var 3))]))]) [.ret (.con (.bl false))] []) [s0, s1, s2, some (.fz an), s4, s5, s6, s7] = .nx [s0, s1, s2, some (.fz an), s4, s5, s6, s7] := by
  simp [-R.bind, wa, q1, q2, hn, c1]
theorem x1 {b0 b1 b2 : List OT} {an : D} {n : Nat} (d : Ir._law_draw.fn [some (.lst b0), some (.fz (.int 6))] = .ok (.fz (intD n)) [some (.lst b1), none]) (r : Ir._law_rights.fn [some (.lst b1), some (.fz (.int (n : Int)))] = .ok (.fz an) [some (.lst b2), none]) (lk : OT) (s2 s3 s4 s5 s6 s7 : Slot) :
    run1 (.asg 3 (.call "_law_rights" [true, false] Ir._law_rights.fn [(.var 1), (.call "_law_draw" [true, false] Ir._law_draw.fn [(.var 1), (.con (.int 6))])])) [some lk, some (.lst b0), s2, s3, s4, s5, s6, s7] = .nx [some lk, some (.lst b2), s2, some (.fz an), s4, s5, s6, s7] := by
  simp [-R.bind, d, r]
theorem x2 {b0 b1 : List OT} {an ad bn : D} (wa : OT.wk (.fz an) = .fz ad) (r : Ir._law_near.fn [some (.lst b0), some (.fz ad)] = .ok (.fz bn) [some (.lst b1), none]) (lk : OT) (s2 s4 s5 s6 s7 : Slot) :
    run1 (.asg 4 (.call "_law_near" [true, false] Ir._law_near.fn [(.var 1), (.wkn (.var 3))])) [some lk, some (.lst b0), s2, some (.fz an), s4, s5, s6, s7] = .nx [some lk, some (.lst b1), s2, some (.fz an), some (.fz bn), s5, s6, s7] := by
  simp [-R.bind, wa, r]
theorem x3 {b0 b1 : List OT} {an ad bn : D} (wa : OT.wk (.fz an) = .fz ad) (r : Ir._law_near.fn [some (.lst b0), some (.fz ad)] = .ok (.fz bn) [some (.lst b1), none]) (lk : OT) (s2 s3 s5 s6 s7 : Slot) :
    run1 (.asg 5 (.call "_law_near" [true, false] Ir._law_near.fn [(.var 1), (.wkn (.var 4))])) [some lk, some (.lst b0), s2, s3, some (.fz an), s5, s6, s7] = .nx [some lk, some (.lst b1), s2, s3, some (.fz an), some (.fz bn), s6, s7] := by
  simp [-R.bind, wa, r]
theorem x4a {b0 b1 b2 b3 : List OT} {cn : D} {n : Nat} (d : Ir._law_draw.fn [some (.lst b0), some (.fz (.int 12))] = .ok (.fz (intD 0)) [some (.lst b1), none]) (d2 : Ir._law_draw.fn [some (.lst b1), some (.fz (.int 6))] = .ok (.fz (intD n)) [some (.lst b2), none])
    (r : Ir._law_rights.fn [some (.lst b2), some (.fz (.int (n : Int)))] = .ok (.fz cn) [some (.lst b3), none]) (lk : OT) (s2 s3 s4 s5 s6 s7 : Slot) :
    run1 (.iff (.cmp .Eq eqD (.call "_law_draw" [true, false] Ir._law_draw.fn [(.var 1), (.con (.int 12))]) (.con (.int 0))) [.asg 5 (.call "_law_rights" [true, false] Ir._law_rights.fn [(.var 1), (.call "_law_draw" [true, false] Ir._law_draw.fn [(.var 1), (.con (.int 6))])])] []) [some lk, some (.lst b0), s2, s3, s4, s5, s6, s7] = .nx [some lk, some (.lst b3), s2, s3, s4, some (.fz cn), s6, s7] := by
  simp [-R.bind, d, d2, r]
theorem x4b {b0 b1 : List OT} {n : Nat} (hn : n ≠ 0) (d : Ir._law_draw.fn [some (.lst b0), some (.fz (.int 12))] = .ok (.fz (intD n)) [some (.lst b1), none]) (lk : OT) (s2 s3 s4 s5 s6 s7 : Slot) :
    run1 (.iff (.cmp .Eq eqD (.call "_law_draw" [true, false] Ir._law_draw.fn [(.var 1), (.con (.int 12))]) (.con (.int 0))) [.asg 5 (.call "_law_rights" [true, false] Ir._law_rights.fn [(.var 1), (.call "_law_draw" [true, false] Ir._law_draw.fn [(.var 1), (.con (.int 6))])])] []) [some lk, some (.lst b0), s2, s3, s4, s5, s6, s7] = .nx [some lk, some (.lst b1), s2, s3, s4, s5, s6, s7] := by
  simp [-R.bind, d, hn]
theorem turn (row : List Nat) (bl : Nat → List OT) (hbl : ∀ k, box row k = .lst (bl k)) (k : Nat) (lk : OT) (s2 s3 s4 s5 s6 s7 : Slot) : ∃ k' s3' s4' s5' s6' s7',
    run [.asg 3 (.call "_law_rights" [true, false] Ir._law_rights.fn [(.var 1), (.call "_law_draw" [true, false] Ir._law_draw.fn [(.var 1), (.con (.int 6))])]), .asg 4 (.call "_law_near" [true, false] Ir._law_near.fn [(.var 1), (.wkn (.var 3))]), .asg 5 (.call "_law_near" [true, false] Ir._law_near.fn [(.var 1), (.wkn (.var 4))]), .iff (.cmp .Eq eqD (.call "_law_draw" [true, false] Ir._law_draw.fn [(.var 1), (.con (.int 12))]) (.con (.int 0))) [.asg 5 (.call "_law_rights" [true, false] Ir._law_rights.fn [(.var 1), (.call "_law_draw" [true, false] Ir._law_draw.fn [(.var 1), (.con (.int 6))])])] [], .for_ (.nm 6) .val [(.lst [(.tup [(.var 3), (.var 4)]), (.tup [(.var 4), (.var 3)]), (.tup [(.var 4), (.var 5)]), (.tup [(.var 3), (.var 5)]), (.tup [(.var 3), (.var 3)])])] [.iff (.nt (.call "_law_is" [false, false] Ir._law_is.fn [(.call "converts" [false, false] Ir.converts.fn [(.wkn (.ix (.var 6) (.con (.int 0)))), (.wkn (.ix (.var 6) (.con (.int 1))))]), (.call "_law_converts" [false, false] (Ir._law_convertsN 10) [(.wkn (.ix (.var 6) (.con (.int 0)))), (.wkn (.ix (.var 6) (.con (.int 1))))])])) [.ret (.con (.bl false))] [], .asg 7 (.und [(.call "_law_converts" [false, false] (Ir._law_convertsN 10) [(.wkn (.ix (.var 6) (.con (.int 0)))), (.wkn (.ix (.var 6) (.con (.int 1))))]), (.call "_law_converts" [false, false] (Ir._law_convertsN 10) [(.wkn (.ix (.var 6) (.con (.int 1)))), (.wkn (.ix (.var 6) (.con (.int 0))))])]), .iff (.nt (.call "_law_is" [false, false] Ir._law_is.fn [(.call "are_alike" [false, false] Ir.are_alike.fn [(.wkn (.ix (.var 6) (.con (.int 0)))), (.wkn (.ix (.var 6) (.con (.int 1))))]), (.var 7)])) [.ret (.con (.bl false))] [], .iff (.cmp .NotEq neD (.var 7) (.cmp .Eq eqD (.call "plain" [false] Ir.plain.fn [(.ix (.var 6) (.con (.int 0)))]) (.call "plain" [false] Ir.plain.fn [(.ix (.var 6) (.con (.int 1)))]))) [.ret (.con (.bl false))] []], .iff (.und [(.call "converts" [false, false] Ir.converts.fn [(.wkn (.var 3)), (.wkn (.var 4))]), (.call "converts" [false, false] Ir.converts.fn [(.wkn (.var 4)), (.wkn (.var 5))]), (.nt (.call "converts" [false, false] Ir.converts.fn [(.wkn (.var 3)), (.wkn (.var 5))]))]) [.ret (.con (.bl false))] [], .iff (.orr [(.cmp .NotEq neD (.call "plain" [false] Ir.plain.fn [(.var 3)]) (.call "_law_plain" [false] Ir._law_plain.fn [(.wkn (.var 3))])), (.nt (.call "converts" [false, false] Ir.converts.fn [(.wkn (.var 3)), (.wkn (.var 3))]))]) [.ret (.con (.bl false))] []] [some lk, some (.lst (bl k)), s2, s3, s4, s5, s6, s7] = .nx [some lk, some (.lst (bl k')), s2, s3', s4', s5', s6', s7'] := by
  have dr := draw_okI row
  have rt := rights_ok row
  have nr := near_ok row
  simp only [hbl] at dr rt nr
  have h6 := drawn_lt row k (m := 6) (by omega)
  have d1 := dr k 6 (by omega)
  rw [show ((6 : Int)).toNat = 6 from rfl] at d1
  have r1 := rt (k + 1) (drawn row k 6) (by omega)
  have hA : (RS row (k + 1) (drawn row k 6)).length < 10 := by rw [RS_len]; omega
  generalize RS row (k + 1) (drawn row k 6) = A at *
  obtain ⟨Bt, k1, hB, n1⟩ := nr (k + 1 + drawn row k 6) A (by omega)
  obtain ⟨C, k2, hC, n2⟩ := nr k1 Bt (by omega)
  have d2 := dr k2 12 (by omega)
  rw [show ((12 : Int)).toNat = 12 from rfl] at d2
  obtain ⟨Ct, k3, hCt, hx4⟩ : ∃ (Ct : List Rt) (k3 : Nat), Ct.length < 10 ∧ run1 (.iff (.cmp .Eq eqD (.call "_law_draw" [true, false] Ir._law_draw.fn [(.var 1), (.con (.int 12))]) (.con (.int 0))) [.asg 5 (.call "_law_rights" [true, false] Ir._law_rights.fn [(.var 1), (.call "_law_draw" [true, false] Ir._law_draw.fn [(.var 1), (.con (.int 6))])])] []) [some lk, some (.lst (bl k2)), s2, some (.fz (tyN A)), some (.fz (tyN Bt)), some (.fz (tyN C)), s6, s7] = .nx [some lk, some (.lst (bl k3)), s2, some (.fz (tyN A)), some (.fz (tyN Bt)), some (.fz (tyN Ct)), s6, s7] := by
    by_cases z : drawn row k2 12 = 0
    · rw [z] at d2
      have d3 := dr (k2 + 1) 6 (by omega)
      rw [show ((6 : Int)).toNat = 6 from rfl] at d3
      have h62 := drawn_lt row (k2 + 1) (m := 6) (by omega)
      exact ⟨_, _, by rw [RS_len]; omega, x4a d2 d3 (rt (k2 + 1 + 1) (drawn row (k2 + 1) 6) (by omega)) lk s2 _ _ _ s6 s7⟩
    · exact ⟨C, _, by omega, x4b z d2 lk s2 _ _ _ s6 s7⟩
  have lA : A.length < 10 := hA
  have lB : Bt.length < 10 := by omega
  obtain ⟨s6', s7', hx5⟩ := pairs_ok [(A, Bt), (Bt, A), (Bt, Ct), (A, Ct), (A, A)] (by
    intro p hp
    simp only [List.mem_cons, List.not_mem_nil, or_false] at hp
    rcases hp with rfl | rfl | rfl | rfl | rfl <;> exact ⟨by assumption, by assumption⟩) (some lk) (some (.lst (bl k3))) s2 (some (.fz (tyN A))) (some (.fz (tyN Bt))) (some (.fz (tyN Ct))) s6 s7
  rw [run_cons, x1 d1 r1]
  simp only [SR.sq_nx]
  rw [run_cons, x2 (wk_tpn _) n1]
  simp only [SR.sq_nx]
  rw [run_cons, x3 (wk_tpn _) n2]
  simp only [SR.sq_nx]
  rw [run_cons, hx4]
  simp only [SR.sq_nx]
  rw [run_cons, x5]
  have hx5 : forGo (.nm 6) _ [.tup [tyN A, tyN Bt], .tup [tyN Bt, tyN A], .tup [tyN Bt, tyN Ct], .tup [tyN A, tyN Ct], .tup [tyN A, tyN A]] _ = _ := hx5
  rw [hx5]
  simp only [SR.sq_nx]
  rw [run_cons, x6 (wk_tpn _) (wk_tpn _) (wk_tpn _) (cv_ok A Bt lA) (cv_ok Bt Ct lB) (cv_ok A Ct lA) (cv_trans A Bt Ct)]
  simp only [SR.sq_nx]
  rw [run_cons, x7 (wk_tpn _) (plain_ok A (by omega)) (law_plain_ok A (by omega)) (by rw [ne_ty]; simp) (by have := cv_ok A A lA; rw [cv_refl] at this; exact this)]
  exact ⟨_, _, _, _, _, _, rfl⟩
theorem law_ok (ns : List Int) (hl : ns.length ≤ 63) (hb : ∀ z ∈ ns, Builtin.Int.intBits z ≤ 1048576) : ∃ o, Ir.law.fn [some (.fz (.lk (ns.map D.int)))] = .ok (.fz (.bl true)) o := by
  obtain ⟨row, hrow⟩ : ∃ row : List Nat, Ir._law_row.fn [some (.fz (.lk (ns.map D.int))), some (.fz (.int 0)), some (.fz (.int 40))] = .ok (.fz (.lst (row.map intD))) [none, none, none] := row_ok ns 40 (by omega)
  obtain ⟨bl, hbl⟩ : ∃ bl : Nat → List OT, ∀ k, box row k = .lst (bl k) := ⟨fun k => [.fz (.lst (row.map intD)), .fz (intD k)], fun _ => rfl⟩
  have hb0 : OT.lst [.fz (.lst (row.map intD)), .fz (.int 0)] = .lst (bl 0) := (hbl 0)
  have tu := turn row bl hbl
  generalize D.lk (ns.map D.int) = lk at *
  have hr3 : rngO 0 25 = some (rngD 0 25) := rfl
  simp only [Ir.law, fn_def]
  simp [-R.bind, -List.map_map, -run_for, hrow, hr3]
  rw [run_for]
  simp [-R.bind, -List.map_map, -run_for, hr3]
  rw [hb0]
  refine forGo_rule (P := fun r => ∃ o, endOf [false] r = .ok (.fz (.bl true)) o) (fun i e => ∃ k s2 s3 s4 s5 s6 s7, e = [some (.fz lk), some (.lst (bl k)), s2, s3, s4, s5, s6, s7]) ⟨0, _, _, _, _, _, _, rfl⟩ ?_ ?_
  · rintro i d e hd ⟨k, s2, s3, s4, s5, s6, s7, rfl⟩
    refine ⟨_, rfl, ?_⟩
    obtain ⟨k', s3', s4', s5', s6', s7', ht⟩ := tu k (.fz lk) (some (.fz d)) s3 s4 s5 s6 s7
    exact Lp_of ht ⟨k', _, _, _, _, _, _, rfl⟩
  · rintro e ⟨k, s2, s3, s4, s5, s6, s7, rfl⟩
    simp [-R.bind]
end K03
end

section
open PySem PySem.W PyProof.Rows
set_option maxHeartbeats 0 in
theorem PySem.Challenge.cw_rightskept_k03_conversions_holds : PySem.Challenge.rw_rightskept_k03_conversions.Holds := by
  w_on; o_law; k_head; (case hw => w_witness2)
  k_fill
  refine L2.walk_ofB (l := PySem.Challenge.rw_rightskept_k03_conversions) (n := 63) (k := 13) (x := "_law_script") (CX := fun w => L2.CX PySem.Challenge.pw_rightskept_k03_conversions w) (sp := fun w => Rx.spLaw _) rfl (by decide) rfl ⟨rfl, by decide, by decide⟩ (fun w h Y => PySem.W.kIn_of Y) ?F (fun _ _ a ns hl hb _ hS => ⟨a, ns, rfl, hS, hl, hb, fun _ => rfl⟩) (fun _ _ _ _ _ ⟨_, _, _, _, _, _, _, _, _, _, _, _, h⟩ => h)
  case F =>
    intro w mg fa h KX G hmg
    refine' K03.all_mk (l := PySem.Challenge.rw_rightskept_k03_conversions) KX G hmg ?z_abs ?z_bool ?z_int ?z_isinstance ?z_len ?z_list ?z_range ?z_tuple ?a__law_cell ?l__law_cell ?c__law_cell ?k__law_cell ?a__law_row ?l__law_row ?c__law_row ?k__law_row ?a__law_draw ?l__law_draw ?c__law_draw ?k__law_draw ?a__law_right ?l__law_right ?c__law_right ?k__law_right ?a__law_rights ?l__law_rights ?c__law_rights ?k__law_rights ?a__law_near ?l__law_near ?c__law_near ?k__law_near ?a__find ?l__find ?c__find ?k__find ?a_converts ?l_converts ?c_converts ?k_converts ?a__law_is ?l__law_is ?c__law_is ?k__law_is ?a__law_within ?l__law_within ?c__law_within ?k__law_within ?a__law_converts ?l__law_converts ?c__law_converts ?k__law_converts ?a_plain ?l_plain ?c_plain ?k_plain ?a__law_plain ?l__law_plain ?c__law_plain ?k__law_plain ?a_are_alike ?l_are_alike ?c_are_alike ?k_are_alike ?a_law ?l_law ?c_law ?k_law K03.law_ok
    (case z_abs => k_is); (case z_bool => k_is); (case z_int => k_is); (case z_isinstance => k_is); (case z_len => k_is); (case z_list => k_is); (case z_range => k_is); (case z_tuple => k_is); (case a__law_cell => k_is); (case l__law_cell => k_is); (case c__law_cell => k_is); (case k__law_cell => k_is); (case a__law_row => k_is); (case l__law_row => k_is); (case c__law_row => k_is); (case k__law_row => k_is); (case a__law_draw => k_is); (case l__law_draw => k_is); (case c__law_draw => k_is); (case k__law_draw => k_is); (case a__law_right => k_is); (case l__law_right => k_is); (case c__law_right => k_is); (case k__law_right => k_is); (case a__law_rights => k_is); (case l__law_rights => k_is); (case c__law_rights => k_is); (case k__law_rights => k_is); (case a__law_near => k_is); (case l__law_near => k_is); (case c__law_near => k_is); (case k__law_near => k_is); (case a__find => k_is); (case l__find => k_is); (case c__find => k_is); (case k__find => k_is); (case a_converts => k_is); (case l_converts => k_is); (case c_converts => k_is); (case k_converts => k_is); (case a__law_is => k_is); (case l__law_is => k_is); (case c__law_is => k_is); (case k__law_is => k_is); (case a__law_within => k_is); (case l__law_within => k_is); (case c__law_within => k_is); (case k__law_within => k_is); (case a__law_converts => k_is); (case l__law_converts => k_is); (case c__law_converts => k_is); (case k__law_converts => k_is); (case a_plain => k_is); (case l_plain => k_is); (case c_plain => k_is); (case k_plain => k_is); (case a__law_plain => k_is); (case l__law_plain => k_is); (case c__law_plain => k_is); (case k__law_plain => k_is); (case a_are_alike => k_is); (case l_are_alike => k_is); (case c_are_alike => k_is); (case k_are_alike => k_is); (case a_law => k_is); (case l_law => k_is); (case c_law => k_is); (case k_law => k_is)
end
