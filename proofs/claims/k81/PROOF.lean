import PyProof.Rows.All
import PySem.Syntax
import Wide.All
import OpenK.AllK
import Wide.FinOn
import HandS.ForMost
import HandS.WordsExc
import HandS.Deep
import HandS.Flow
import HandS.Walk
import HandS.TryOnly
import HandS.Style
import HandS.TupAny
import HandS.TupMul
import HandS.IsInst
import HandS.WideBits
import HandS.Text
import KE.KExcSuper
import HandS.ExcInit
import HandS.ExcField
import HandS.CallLocal
import HandS.Codes
import HandS.DictComp
import KE.SortData
import HandS.Sort
import PySem.Builtin.Int.Common
import HandS.EndBits
import PySem.Challenge.RW_rightskept_k81_whole_exact_rule
set_option Elab.async false
set_option linter.all false
set_option maxRecDepth 100000
section
/-! Rx, part 0: data as trees, things that are owned, and an evaluator of a small language over them (plain Lean; no program in sight). -/
namespace Rx
open PySem

/-- data: what nobody changes any more. lk: the law's own script -/
inductive D where
  | non | bl (b : Bool) | int (i : Int) | str (s : List Nat)
  | tup (xs : List D) | lst (xs : List D) | lk (xs : List D) | dic (kvs : List (D × D))
  | ins (c : Str) (fs : List (Str × D)) | fn (f : Str)
  deriving Inhabited
noncomputable instance : DecidableEq D := fun _ _ => Classical.propDecidable _

/-- a thing that one name alone holds: data, or a list, a dict, an instance that may still be changed -/
inductive OT where
  | fz (d : D) | lst (xs : List OT) | dic (kvs : List (D × D)) | ins (c : Str) (fs : List (Str × OT))

/-! ### the tree of a thing -/
mutual
def OT.view : OT → D
  | .fz d => d
  | .lst xs => .lst (OT.views xs)
  | .dic kvs => .dic kvs
  | .ins c fs => .ins c (OT.viewf fs)
def OT.views : List OT → List D
  | [] => []
  | x :: xs => OT.view x :: OT.views xs
def OT.viewf : List (Str × OT) → List (Str × D)
  | [] => []
  | (f, x) :: xs => (f, OT.view x) :: OT.viewf xs
end
/-- the tree, where nothing within is owned -/
def allFz : List OT → Option (List D)
  | [] => some []
  | .fz d :: xs => (allFz xs).map (d :: ·)
  | _ :: _ => none
def OT.flat : OT → Option D
  | .fz d => some d
  | .lst xs => (allFz xs).map .lst
  | .dic kvs => some (.dic kvs)
  | .ins _ _ => none
/-- a list just made -/
abbrev OT.ml (ds : List D) : OT := .lst (ds.map .fz)
@[simp] theorem views_map (ds : List D) : OT.views (ds.map .fz) = ds := by
  induction ds with
  | nil => rfl
  | cons d ds ih => simp [OT.views, OT.view, ih]
@[simp] theorem allFz_map (ds : List D) : allFz (ds.map .fz) = some ds := by
  induction ds with
  | nil => rfl
  | cons d ds ih => simp [allFz, ih]

abbrev Slot := Option OT
abbrev Ev := List Slot
structure Exn where
  cls : Str
  fs : List (Str × D)
/-- how a call of a def ends: it yields a thing, and what its changed arguments are behind it -/
inductive Out where
  | bad | ok (r : OT) (outs : List Slot) | exn (x : Exn) (outs : List Slot)
abbrev Fn := List Slot → Out

inductive R (α : Type) where
  | bad | ok (a : α) (e : Ev) | exn (x : Exn) (e : Ev)
@[simp] def R.bind {α β : Type} : R α → (α → Ev → R β) → R β
  | .bad, _ => .bad
  | .ok a e, f => f a e
  | .exn x e, _ => .exn x e
abbrev M (α : Type) := Ev → R α
def M.pure {α : Type} (a : α) : M α := fun e => .ok a e
def M.bind {α β : Type} (m : M α) (f : α → M β) : M β := fun e => (m e).bind fun a e' => f a e'
def M.lift {α : Type} : Option α → M α
  | some a => fun e => .ok a e
  | none => fun _ => .bad
@[simp] theorem M.pure_app {α : Type} (a : α) (e : Ev) : M.pure a e = .ok a e := rfl
@[simp] theorem M.bind_app {α β : Type} (m : M α) (f : α → M β) (e : Ev) : M.bind m f e = (m e).bind fun a e' => f a e' := rfl
@[simp] theorem M.lift_some {α : Type} (a : α) (e : Ev) : M.lift (some a) e = .ok a e := rfl
@[simp] theorem M.lift_none {α : Type} (e : Ev) : M.lift (none : Option α) e = .bad := rfl

/-! ### values -/
def sizeMax : Nat := 16777216
/-- where an index lies, among n -/
def plc (n : Nat) (i : Int) : Option Nat := match i with
  | .ofNat k => if k < n then some k else none
  | .negSucc k => if k < n then some (n - 1 - k) else none
def getI {α : Type} (xs : List α) (i : Int) : Option α := match plc xs.length i with
  | some k => xs[k]?
  | none => none
/-- where a slice begins or ends -/
def bnd (n dflt : Nat) : Option Int → Nat
  | none => dflt
  | some (.ofNat k) => min k n
  | some (.negSucc k) => n - 1 - k
def cut {α : Type} (xs : List α) (lo hi : Option Int) : List α := (xs.take (bnd xs.length xs.length hi)).drop (bnd xs.length 0 lo)
noncomputable def lookD (kvs : List (D × D)) (k : D) : Option D := match kvs with
  | [] => none
  | (a, v) :: r => if a = k then some v else lookD r k
noncomputable def hasD (kvs : List (D × D)) (k : D) : Bool := kvs.any fun p => decide (p.1 = k)
/-- a dict behind a store: an old key keeps its place -/
noncomputable def putD (kvs : List (D × D)) (k v : D) : List (D × D) := match hasD kvs k with
  | true => kvs.map fun p => if p.1 = k then (k, v) else p
  | false => kvs ++ [(k, v)]
/-! == as Python has it -/
mutual
def D.eqv : D → D → Bool
  | .non, .non => true
  | .bl a, .bl b => a == b
  | .bl a, .int j => (if a then 1 else 0) == j
  | .int i, .bl b => i == (if b then 1 else 0)
  | .int i, .int j => i == j
  | .str x, .str y => x == y
  | .lst xs, .lst ys => D.eqvs xs ys
  | .tup xs, .tup ys => D.eqvs xs ys
  | _, _ => false
def D.eqvs : List D → List D → Bool
  | [], [] => true
  | x :: xs, y :: ys => D.eqv x y && D.eqvs xs ys
  | _, _ => false
end
/-! data that == is defined for, and its depth -/
mutual
def D.eqok : Nat → D → Bool
  | _, .non => true
  | _, .bl _ => true
  | _, .int _ => true
  | _, .str _ => true
  | 0, _ => false
  | n + 1, .lst xs => D.eqoks n xs
  | n + 1, .tup xs => D.eqoks n xs
  | _, _ => false
def D.eqoks : Nat → List D → Bool
  | _, [] => true
  | n, x :: xs => D.eqok n x && D.eqoks n xs
end
def D.truth : D → Option Bool
  | .non => some false
  | .bl b => some b
  | .int i => some (i != 0)
  | .str s => some (!s.isEmpty)
  | .tup xs => some (!xs.isEmpty)
  | .lst xs => some (!xs.isEmpty)
  | .lk xs => some (!xs.isEmpty)
  | .dic kvs => some (!kvs.isEmpty)
  | .ins _ _ => none
  | .fn _ => none

/-- a thing's type, by its name -/
def D.ty : D → Option String
  | .non => some "NoneType"
  | .bl _ => some "bool"
  | .int _ => some "int"
  | .str _ => some "str"
  | .tup _ => some "tuple"
  | .lst _ => some "list"
  | .dic _ => some "dict"
  | _ => none
/-- an attribute is set -/
def putA {α : Type} (f : Str) (y : α) : List (Str × α) → List (Str × α)
  | [] => [(f, y)]
  | (g, z) :: r => if g = f then (f, y) :: r else (g, z) :: putA f y r

/-! ### the small language -/
/-- a step within a thing -/
inductive Wy where
  | c (i : Int) | v (j : Nat) | f (cs : List Str) (x : Str)
inductive TGt where
  | nm (j : Nat) | tp (ts : List TGt)
/-- what a for walks -/
inductive ITK where
  | val | rng1 | rng2 | enum | zip | items | values | keys
  deriving DecidableEq

inductive IE where
  | var (j : Nat)
  | mv (j : Nat)
  | pth (j : Nat) (ss : List Wy)
  | con (c : D)
  | glo (x : Str) (d : D)
  | tup (es : List IE)
  | lst (es : List IE)
  | dnew
  | bop (op : Operator) (g : D → D → Option OT) (a b : IE)
  | cmp (op : CmpOp) (g : D → D → Option Bool) (a b : IE)
  | chn (o1 o2 : CmpOp) (g1 g2 : D → D → Option Bool) (a b c : IE)
  | und (es : List IE)
  | orr (es : List IE)
  | nt (e : IE)
  | uop (op : UnaryOp) (g : D → Option D) (a : IE)
  | ife (c a b : IE)
  | ix (a i : IE)
  | sl (a : IE) (lo hi : Option IE)
  | att (a : IE) (cs : List Str) (f : Str)
  | call (x : Str) (ms : List Bool) (f : Fn) (es : List IE)
  | bi (x : Str) (g : List D → Option OT) (es : List IE)
  | me (m : Str) (g : D → List D → Option OT) (a : IE) (es : List IE)
  | pop (j : Nat) (ss : List Wy) (i : Option IE)
  | fzz (a : IE)
  | mth (T : String) (m : Str) (g : D → List D → Option OT) (a : IE) (es : List IE)
  | mk (x : Str) (f : Fn) (es : List IE)
  | lnp (j : Nat) (ss : List Wy)
  | meth (c m : Str) (ms : List Bool) (f : Fn) (j : Nat) (es : List IE)
  | cv (j : Nat) (tbl : List (Str × Fn)) (es : List IE)
  | dc (tg : TGt) (k : ITK) (its : List IE) (kx vx : IE) (own : List Nat)
  | lc (tg : TGt) (k : ITK) (its : List IE) (c : Option IE) (e : IE) (own : List Nat)

inductive IS where
  | asg (j : Nat) (e : IE)
  | asgT (tg : TGt) (e : IE)
  | par (i j : Nat) (a b : IE)
  | sto (j : Nat) (ss : List Wy) (k : IE) (e : IE)
  | aug (j : Nat) (op : Operator) (g : D → D → Option D) (e : IE)
  | app (j : Nat) (ss : List Wy) (e : IE)
  | ext (j : Nat) (ss : List Wy) (e : IE)
  | ex (e : IE)
  | ret (e : IE)
  | retN
  | iff (c : IE) (a b : List IS)
  | for_ (tg : TGt) (k : ITK) (its : List IE) (body : List IS)
  | whl (n : Nat) (c : IE) (body : List IS)
  | brk | cont | pass
  | rais (x : Str) (mk : List D → Option Exn) (es : List IE)
  | sta (j : Nat) (c f : Str) (e : IE)
  | apq (j : Nat) (ss : List Wy) (e : IE)
  | stp (j : Nat) (ss : List Wy) (w : Wy) (e : IE)
  | aga (j : Nat) (c f : Str) (i : Int)
  | hk (f : List (Option OT) → Option (Option OT × List (Option OT)))
  | tryR (body : List IS) (c : Str) (j : Nat) (f : Str)
  | tryC (body : List IS) (c : Str) (x : IE)

/-! ### names -/
def Ev.at (e : Ev) (j : Nat) : Slot := e.getD j none
@[simp] def M.get (j : Nat) : M OT := fun e => match e.at j with
  | none => .bad
  | some t => .ok t e
/-- a name as a value: what it holds is nobody's own from here on -/
@[simp] def M.read (j : Nat) : M OT := fun e => match e.at j with
  | none => .bad
  | some (.fz d) => .ok (.fz d) e
  | some t => .ok (.fz t.view) (e.set j (some (.fz t.view)))
@[simp] def M.move (j : Nat) : M OT := fun e => match e.at j with
  | none => .bad
  | some (.fz d) => .ok (.fz d) e
  | some t => .ok t (e.set j none)
/-- an operand: a name is looked up when it is wanted -/
@[simp] def IE.isVar : IE → Option Nat
  | .var j => some j
  | _ => none
@[simp] def opd (x : IE) (m : M OT) : M (Option D) := match x.isVar with
  | some j => M.bind (M.get j) fun _ => M.pure none
  | none => M.bind m fun t => M.pure (some t.view)
@[simp] def fin (x : IE) (r : Option D) : M D := match x.isVar with
  | some j => M.bind (M.get j) fun t => M.lift t.flat
  | none => M.lift r
@[simp] def fins : List IE → List (Option D) → M (List D)
  | x :: xs, r :: rs => M.bind (fin x r) fun d => M.bind (fins xs rs) fun ds => M.pure (d :: ds)
  | _, _ => M.pure []
def Wy.child (e : Ev) (t : OT) : Wy → Option OT
  | .c i => (match t with
    | .lst ts => getI ts i
    | .fz (.lst ds) => (getI ds i).map .fz
    | .fz (.tup ds) => (getI ds i).map .fz
    | _ => none)
  | .v j => (match e.at j with
    | some (.fz (.int i)) => (match t with
      | .lst ts => getI ts i
      | .fz (.lst ds) => (getI ds i).map .fz
      | .fz (.tup ds) => (getI ds i).map .fz
      | _ => none)
    | _ => none)
  | .f cs x => (match t with
    | .ins c0 fs => if c0 ∈ cs then fs.lookup x else none
    | .fz (.ins c0 fs) => if c0 ∈ cs then (fs.lookup x).map .fz else none
    | _ => none)
@[simp] def nav (e : Ev) : OT → List Wy → Option OT
  | t, [] => some t
  | t, s :: ss => (s.child e t).bind fun u => nav e u ss
def ixD (a i : D) : Option D := match a, i with
  | .lst xs, .int i => getI xs i
  | .lk xs, .int i => getI xs i
  | .tup xs, .int i => getI xs i
  | .str s, .int i => (getI s i).map fun c => .str [c]
  | _, _ => none
noncomputable def ixK (a i : D) : Option D := match a with
  | .dic kvs => lookD kvs i
  | _ => ixD a i
def slD (a : D) (lo hi : Option Int) : Option OT := match a with
  | .lst xs => some (.ml (cut xs lo hi))
  | .tup xs => some (.fz (.tup (cut xs lo hi)))
  | .str s => some (.fz (.str (cut s lo hi)))
  | _ => none
def intK (d : D) : M (Option Int) := match d with
  | .int i => M.pure (some i)
  | _ => fun _ => .bad
def attD (a : D) (cs : List Str) (f : Str) : Option D := match a with
  | .ins c fs => if c ∈ cs then fs.lookup f else none
  | _ => none
@[simp] def intD (i : Nat) : D := .int (i : Int)
def enumD : Nat → List D → List D
  | _, [] => []
  | n, x :: xs => .tup [intD n, x] :: enumD (n + 1) xs
def zipD : List D → List D → List D
  | x :: xs, y :: ys => .tup [x, y] :: zipD xs ys
  | _, _ => []
def rngD (lo : Int) (n : Nat) : List D := (List.range n).map fun (i : Nat) => .int (lo + i)
def rngO (a b : Int) : Option (List D) := if -8000000 ≤ a ∧ a ≤ 8000000 ∧ -8000000 ≤ b ∧ b ≤ 8000000 then some (rngD a (b - a).toNat) else none
/-- what a for walks -/
def itemsOf : ITK → List D → Option (List D)
  | .val, [.lst xs] => some xs
  | .val, [.lk xs] => some xs
  | .val, [.tup xs] => some xs
  | .val, [.str s] => some (s.map fun c => .str [c])
  | .rng1, [.int n] => rngO 0 n
  | .rng2, [.int a, .int b] => rngO a b
  | .enum, [.lst xs] => some (enumD 0 xs)
  | .zip, [.lst xs, .lst ys] => some (zipD xs ys)
  | .items, [.dic kvs] => some (kvs.map fun p => .tup [p.1, p.2])
  | .values, [.dic kvs] => some (kvs.map (·.2))
  | .keys, [.dic kvs] => some (kvs.map (·.1))
  | _, _ => none
mutual
def bindT : TGt → D → Ev → Option Ev
  | .nm j, d, e => some (e.set j (some (.fz d)))
  | .tp ts, d, e => match d with
    | .tup ds => bindTs ts ds e
    | .lst ds => bindTs ts ds e
    | _ => none
def bindTs : List TGt → List D → Ev → Option Ev
  | [], [], e => some e
  | t :: ts, d :: ds, e => (bindT t d e).bind fun e' => bindTs ts ds e'
  | _, _, _ => none
end
def wipeE (e : Ev) : List Nat → Ev
  | [] => e
  | j :: js => (wipeE e js).set j none
/-- the block's own names as they were -/
def restE (e0 : Ev) : Ev → List Nat → Ev
  | e, [] => e
  | e, j :: js => restE e0 (e.set j (e0.at j)) js
def ownOk (e : Ev) : List Nat → Bool
  | [] => true
  | j :: js => (match e.at j with
    | none => true
    | some (.fz _) => true
    | _ => false) && !js.contains j && ownOk e js
def pickB {α : Type} : Bool → α → α → α
  | true, x, _ => x
  | false, _, y => y
@[simp] theorem pickB_true {α : Type} (x y : α) : pickB true x y = x := rfl
@[simp] theorem pickB_false {α : Type} (x y : α) : pickB false x y = y := rfl
/-- within a comprehension nothing is raised -/
def noX {α : Type} : R α → R α
  | .ok a e => .ok a e
  | _ => .bad
@[simp] theorem noX_ok {α : Type} (a : α) (e : Ev) : noX (.ok a e) = .ok a e := rfl
@[simp] theorem noX_bad {α : Type} : noX (.bad : R α) = .bad := rfl
@[simp] theorem noX_exn {α : Type} (x : Exn) (e : Ev) : noX (.exn x e : R α) = .bad := rfl
/-- a comprehension's turns -/
def lcGo (own : List Nat) (tg : TGt) (mc : M Bool) (me : M OT) : List D → List D → M (List D)
  | [], acc => M.pure acc
  | d :: ds, acc => fun e => match bindT tg d (wipeE e own) with
    | none => .bad
    | some e1 => (noX (mc e1)).bind fun b e2 => pickB b ((noX (me e2)).bind fun t e3 => lcGo own tg mc me ds (acc ++ [t.view]) e3) (lcGo own tg mc me ds acc e2)
def lcRun (own : List Nat) (tg : TGt) (mc : M Bool) (me : M OT) (xs : List D) : M OT := fun e =>
  match ownOk e own with
  | true => (lcGo own tg mc me xs [] e).bind fun acc e' => .ok (.ml acc) (restE e (wipeE e' own) own)
  | false => .bad
/-! ### calls -/
/-- what is handed to a def, and the names that are to have it back -/
@[simp] def takeRef (j : Nat) : M (Slot × Option Nat) := fun e => match e.at j with
  | none => .bad
  | some (.fz d) => .ok (some (.fz d), none) e
  | some t => .ok (some t, some j) (e.set j none)
@[simp] def giveBack : List (Slot × Option Nat) → List Slot → Ev → Ev
  | (_, some j) :: r, o :: os, e => giveBack r os (e.set j o)
  | (_, none) :: r, _ :: os, e => giveBack r os e
  | _, _, e => e
@[simp] def refVar (ref : Bool) (x : IE) : Option Nat := match ref with
  | true => x.isVar
  | false => none
@[simp] def argOf (ref : Bool) (x : IE) (m : M OT) : M (Slot × Option Nat) := match refVar ref x with
  | some j => M.bind (M.get j) fun _ => M.pure (none, some j)
  | none => M.bind m fun t => M.pure (some (match ref with | true => t | false => .fz t.view), none)
/-- when all arguments are there: the names that are handed on give what they hold -/
@[simp] def takeAll : List (Slot × Option Nat) → M (List (Slot × Option Nat))
  | [] => M.pure []
  | (s, none) :: r => M.bind (takeAll r) fun as => M.pure ((s, none) :: as)
  | (_, some j) :: r => M.bind (takeRef j) fun a => M.bind (takeAll r) fun as => M.pure (a :: as)
@[simp] def callG (f : Fn) (as : List (Slot × Option Nat)) : M OT := fun e => match f (as.map (·.1)) with
  | .bad => .bad
  | .ok r outs => .ok r (giveBack as outs e)
  | .exn x outs => .exn x (giveBack as outs e)
@[simp] def callF (f : Fn) (as : List (Slot × Option Nat)) : M OT := M.bind (takeAll as) fun as => callG f as
/-- a thing within a thing is set -/
@[simp] def setAt (e : Ev) (u : OT → Option OT) : OT → List Wy → Option OT
  | t, [] => u t
  | t, s :: ss => match s, t with
    | .c i, .lst ts => (plc ts.length i).bind fun n => (ts[n]?).bind fun c => (setAt e u c ss).map fun c' => .lst (ts.set n c')
    | .v j, .lst ts => (match e.at j with
      | some (.fz (.int i)) => (plc ts.length i).bind fun n => (ts[n]?).bind fun c => (setAt e u c ss).map fun c' => .lst (ts.set n c')
      | _ => none)
    | .f cs x, .ins c fs => if c ∈ cs then (fs.lookup x).bind fun c1 => (setAt e u c1 ss).map fun c' => .ins c (putA x c' fs) else none
    | _, _ => none
@[simp] def updAt (j : Nat) (ss : List Wy) (u : OT → Option OT) : Ev → Option Ev := fun e => match e.at j with
  | some t => (setAt e u t ss).map fun t' => e.set j (some t')
  | none => none
@[simp] def appO (x : OT) : OT → Option OT
  | .lst ts => if ts.length < sizeMax then some (.lst (ts ++ [x])) else none
  | _ => none
def extO (xs : List D) : OT → Option OT
  | .lst ts => if ts.length + xs.length ≤ sizeMax then some (.lst (ts ++ xs.map .fz)) else none
  | _ => none
def isKey : D → Bool
  | .int _ => true
  | .str _ => true
  | _ => false
noncomputable def stoO (k : D) (x : OT) : OT → Option OT
  | .lst ts => (match k with
    | .int i => (plc ts.length i).map fun n => .lst (ts.set n x)
    | _ => none)
  | .dic kvs => (match x with
    | .fz v => if isKey k = true ∧ kvs.length < sizeMax then some (.dic (putD kvs k v)) else none
    | _ => none)
  | _ => none
/-- an attribute of what is owned is set -/
def staO (c f : Str) (x : OT) : OT → Option OT
  | .ins c' fs => if c' = c ∧ fs.length < 1000 then some (.ins c (putA f x fs)) else none
  | _ => none
def popO (i : Option Int) : OT → Option (D × OT)
  | .lst ts => (plc ts.length (i.getD (-1))).bind fun n => (ts[n]?).bind fun c => (match c with
    | .fz d => some (d, .lst (ts.eraseIdx n))
    | _ => none)
  | _ => none

/-- an item of an owned list is set, at an index -/
def stpO (e : Ev) (w : Wy) (x : OT) : OT → Option OT
  | .lst ts => (match w with
    | .c i => (plc ts.length i).map fun n => .lst (ts.set n x)
    | .v k => (match e.at k with
      | some (.fz (.int i)) => (plc ts.length i).map fun n => .lst (ts.set n x)
      | _ => none)
    | _ => none)
  | _ => none
/-- a number is added to an attribute -/
def agaO (c f : Str) (i : Int) : OT → Option OT
  | .ins c' fs => if c' = c ∧ fs.length < 1000 then (match fs.lookup f with
    | some (.fz (.int n)) => some (.ins c (putA f (.fz (.int (n + i))) fs))
    | _ => none) else none
  | _ => none
/-- an instance of the class c, without an attribute m of its own -/
def chkM (c m : Str) : OT → M Unit
  | .ins c' fs => if c' = c ∧ fs.lookup m = none then M.pure () else fun _ => .bad
  | _ => fun _ => .bad
/-- a def is called with data -/
def callC (f : Fn) (ds : List D) : M OT := fun e => match f (ds.map fun d => some (.fz d)) with
  | .bad => .bad
  | .ok r _ => .ok r e
  | .exn x _ => .exn x e
/-- an instance is made -/
def mkC (x : Str) (f : Fn) (ds : List D) : M OT := fun e => match f (some (.ins x []) :: ds.map fun d => some (.fz d)) with
  | .ok (.fz .non) (some o :: _) => .ok o e
  | .exn y _ => .exn y e
  | _ => .bad
def tyM (T : String) (x : IE) (r : Option D) : M Unit := M.bind (fin x r) fun d => fun e => if d.ty = some T then .ok () e else .bad
/-- a dict comprehension's turns -/
noncomputable def dcGo (own : List Nat) (tg : TGt) (mk mv : M OT) : List D → List (D × D) → M (List (D × D))
  | [], acc => M.pure acc
  | d :: ds, acc => fun e => match bindT tg d (wipeE e own) with
    | none => .bad
    | some e1 => (noX (mk e1)).bind fun t e2 => (noX (mv e2)).bind fun u e3 => if isKey t.view = true ∧ acc.length < sizeMax then dcGo own tg mk mv ds (putD acc t.view u.view) e3 else .bad
noncomputable def dcRun (own : List Nat) (tg : TGt) (mk mv : M OT) (xs : List D) : M OT := fun e =>
  match ownOk e own with
  | true => (dcGo own tg mk mv xs [] e).bind fun acc e' => .ok (.dic acc) (restE e (wipeE e' own) own)
  | false => .bad
/-- the truth of what is yielded -/
@[simp] def truthM (x : IE) (m : M OT) : M Bool := M.bind (opd x m) fun r => M.bind (fin x r) fun d => M.lift d.truth
def pr (x : IE) (m : M OT) : M OT × M Bool := (m, truthM x m)
def andK (d : D) (m : M OT) : M OT := match d with
  | .bl true => m
  | .bl false => M.pure (.fz (.bl false))
  | _ => fun _ => .bad
def orK (d : D) (m : M OT) : M OT := match d with
  | .bl false => m
  | .bl true => M.pure (.fz (.bl true))
  | _ => fun _ => .bad
@[simp] def op2M {α : Type} (xa xb : IE) (ma mb : M OT) (k : D → D → Option D → M α) : M α := M.bind (opd xa ma) fun ra => M.bind (opd xb mb) fun rb => M.bind (fin xa ra) fun x => M.bind (fin xb rb) fun y => k x y rb
def bopM (g : D → D → Option OT) (xa xb : IE) (ma mb : M OT) : M OT := op2M xa xb ma mb fun x y _ => M.lift (g x y)
@[simp] def blM (o : Option Bool) : M OT := M.bind (M.lift o) fun k => M.pure (.fz (.bl k))
def cmpM (g : D → D → Option Bool) (xa xb : IE) (ma mb : M OT) : M OT := op2M xa xb ma mb fun x y _ => blM (g x y)
def cmpT (g : D → D → Option Bool) (xa xb : IE) (ma mb : M OT) : M Bool := op2M xa xb ma mb fun x y _ => M.lift (g x y)
def chnM (g1 g2 : D → D → Option Bool) (xa xb xc : IE) (ma mb mc : M OT) : M OT := op2M xa xb ma mb fun x y rb => M.bind (M.lift (g1 x y)) fun k => (match k with
    | true => M.bind (opd xc mc) fun rc => M.bind (fin xb rb) fun y => M.bind (fin xc rc) fun z => blM (g2 y z)
    | false => M.pure (.fz (.bl false)))
def chnT (g1 g2 : D → D → Option Bool) (xa xb xc : IE) (ma mb mc : M OT) : M Bool := op2M xa xb ma mb fun x y rb => M.bind (M.lift (g1 x y)) fun k => (match k with
    | true => M.bind (opd xc mc) fun rc => M.bind (fin xb rb) fun y => M.bind (fin xc rc) fun z => M.lift (g2 y z)
    | false => M.pure false)
@[simp] def uopM (g : D → Option D) (xa : IE) (ma : M OT) : M OT := M.bind (opd xa ma) fun ra => M.bind (fin xa ra) fun x => M.bind (M.lift (g x)) fun d => M.pure (.fz d)
mutual
/-- what an expression yields; what it is as a test -/
noncomputable def sem : IE → M OT × M Bool
  | .var j => pr (.var j) (M.read j)
  | .mv j => pr (.mv j) (M.move j)
  | .pth j ss => pr (.pth j ss) (M.bind (M.get j) fun t => fun e => (match nav e t ss with
    | some (.fz d) => .ok (.fz d) e
    | _ => .bad))
  | .con c => pr (.con c) (M.pure (.fz c))
  | .glo u0 d => pr (.glo u0 d) (M.pure (.fz d))
  | .tup es => pr (.tup es) (M.bind (evs es) fun ts => M.pure (.fz (.tup (OT.views ts))))
  | .lst es => pr (.lst es) (M.bind (evs es) fun ts => M.pure (.lst ts))
  | .dnew => pr (.dnew) (M.pure (.dic []))
  | .bop u0 g a b => pr (.bop u0 g a b) (bopM g a b (sem a).1 (sem b).1)
  | .cmp _ g a b => (cmpM g a b (sem a).1 (sem b).1, cmpT g a b (sem a).1 (sem b).1)
  | .chn u0 u1 g1 g2 a b c => pr (.chn u0 u1 g1 g2 a b c) (chnM g1 g2 a b c (sem a).1 (sem b).1 (sem c).1)
  | .und es => (evAnd es, tstAnd es)
  | .orr es => (evOr es, tstOr es)
  | .nt x => (M.bind (truthM x (sem x).1) fun b => M.pure (.fz (.bl (!b))), M.bind (sem x).2 fun b => M.pure (!b))
  | .uop u0 g a => pr (.uop u0 g a) (uopM g a (sem a).1)
  | .ife c a b => (M.bind (sem c).2 fun k => (match k with
    | true => (sem a).1
    | false => (sem b).1), fun _ => .bad)
  | .ix a i => pr (.ix a i) (op2M a i (sem a).1 (sem i).1 fun x y _ => M.bind (M.lift (ixK x y)) fun d => M.pure (.fz d))
  | .sl a lo hi => pr (.sl a lo hi) (M.bind (opd a (sem a).1) fun ra => M.bind (evOpt lo) fun l => M.bind (evOpt hi) fun h => M.bind (fin a ra) fun x => M.lift (slD x l h))
  | .att a cs f => pr (.att a cs f) (M.bind (sem a).1 fun t => M.bind (M.lift (attD t.view cs f)) fun d => M.pure (.fz d))
  | .call u0 ms f es => pr (.call u0 ms f es) (M.bind (evArgs ms es) fun as => callF f as)
  | .lnp j ss => pr (.lnp j ss) (M.bind (M.get j) fun t => fun e => (match nav e t ss with
    | some (.lst ts) => .ok (.fz (intD ts.length)) e
    | _ => .bad))
  | .meth c m ms f j es => pr (.meth c m ms f j es) (M.bind (M.get j) fun t => M.bind (chkM c m t) fun _ => M.bind (evArgs ms es) fun as => callF f ((none, some j) :: as))
  | .bi u0 g es => pr (.bi u0 g es) (M.bind (evOps es) fun rs => M.bind (fins es rs) fun ds => M.lift (g ds))
  | .me u0 g a es => pr (.me u0 g a es) (M.bind (opd a (sem a).1) fun ra => M.bind (evOps es) fun rs => M.bind (fin a ra) fun x => M.bind (fins es rs) fun ds => M.lift (g x ds))
  | .pop j ss i => pr (.pop j ss i) (M.bind (evOpt i) fun k => fun e => (match e.at j with
    | some t => (match nav e t ss with
      | some u => (match popO k u with
        | some (d, u') => (match updAt j ss (fun _ => some u') e with
          | some e' => .ok (.fz d) e'
          | none => .bad)
        | none => .bad)
      | none => .bad)
    | none => .bad))
  | .mth T u0 g a es => pr (.mth T u0 g a es) (M.bind (opd a (sem a).1) fun ra => M.bind (tyM T a ra) fun _ => M.bind (evOps es) fun rs => M.bind (fin a ra) fun x => M.bind (fins es rs) fun ds => M.lift (g x ds))
  | .mk x f es => pr (.mk x f es) (M.bind (evs es) fun ts => mkC x f (OT.views ts))
  | .cv j tbl es => pr (.cv j tbl es) (M.bind (M.get j) fun t => (match t with
    | .fz (.fn x) => (match tbl.lookup x with
      | some f => M.bind (evs es) fun ts => callC f (OT.views ts)
      | none => fun _ => .bad)
    | _ => fun _ => .bad))
  | .dc tg k its kx vx own => pr (.dc tg k its kx vx own) (M.bind (evs its) fun ts => M.bind (M.lift (itemsOf k (OT.views ts))) fun xs => dcRun own tg (sem kx).1 (sem vx).1 xs)
  | .fzz a => pr (.fzz a) (M.bind (sem a).1 fun t => M.pure (.fz t.view))
  | .lc tg k its c x own => pr (.lc tg k its c x own) (M.bind (evs its) fun ts => M.bind (M.lift (itemsOf k (OT.views ts))) fun xs =>
      lcRun own tg (semOpt c) (sem x).1 xs)
noncomputable def evs : List IE → M (List OT)
  | [] => M.pure []
  | x :: r => M.bind (sem x).1 fun t => M.bind (evs r) fun ts => M.pure (t :: ts)
noncomputable def evOps : List IE → M (List (Option D))
  | [] => M.pure []
  | x :: r => M.bind (opd x (sem x).1) fun t => M.bind (evOps r) fun ts => M.pure (t :: ts)
noncomputable def evOpt : Option IE → M (Option Int)
  | none => M.pure none
  | some x => M.bind (sem x).1 fun t => intK t.view
noncomputable def evArgs : List Bool → List IE → M (List (Slot × Option Nat))
  | _, [] => M.pure []
  | ms, x :: r => M.bind (argOf (ms.headD false) x (sem x).1) fun a => M.bind (evArgs ms.tail r) fun as => M.pure (a :: as)
noncomputable def evAnd : List IE → M OT
  | [] => fun _ => .bad
  | x :: r => match r with
    | [] => (sem x).1
    | _ :: _ => M.bind (sem x).1 fun t => andK t.view (evAnd r)
noncomputable def evOr : List IE → M OT
  | [] => fun _ => .bad
  | x :: r => match r with
    | [] => (sem x).1
    | _ :: _ => M.bind (sem x).1 fun t => orK t.view (evOr r)
noncomputable def tstAnd : List IE → M Bool
  | [] => M.pure true
  | x :: r => M.bind (sem x).2 fun b => (match b with
    | true => tstAnd r
    | false => M.pure false)
noncomputable def tstOr : List IE → M Bool
  | [] => M.pure false
  | x :: r => M.bind (sem x).2 fun b => (match b with
    | false => tstOr r
    | true => M.pure true)
noncomputable def semOpt : Option IE → M Bool
  | none => M.pure true
  | some x => (sem x).2
end

/-! ### statements -/
inductive SR where
  | bad | nx (e : Ev) | ret (t : OT) (e : Ev) | brk (e : Ev) | ct (e : Ev) | exn (x : Exn) (e : Ev)
def R.st {α : Type} : R α → (α → Ev → SR) → SR
  | .bad, _ => .bad
  | .ok a e, f => f a e
  | .exn x e, _ => .exn x e
@[simp] theorem R.st_bad {α : Type} (f : α → Ev → SR) : (R.bad : R α).st f = .bad := rfl
@[simp] theorem R.st_ok {α : Type} (a : α) (e : Ev) (f : α → Ev → SR) : (R.ok a e).st f = f a e := rfl
@[simp] theorem R.st_exn {α : Type} (x : Exn) (e : Ev) (f : α → Ev → SR) : (R.exn x e : R α).st f = .exn x e := rfl
@[simp] def ofO : Option Ev → SR
  | some e => .nx e
  | none => .bad
/-- behind a loop's turn -/
def SR.lp (k : Ev → SR) : SR → SR
  | .nx e => k e
  | .ct e => k e
  | .brk e => .nx e
  | .bad => .bad
  | .ret t e => .ret t e
  | .exn x e => .exn x e
@[simp] theorem SR.lp_nx (k : Ev → SR) (e : Ev) : (SR.nx e).lp k = k e := rfl
@[simp] theorem SR.lp_ct (k : Ev → SR) (e : Ev) : (SR.ct e).lp k = k e := rfl
@[simp] theorem SR.lp_brk (k : Ev → SR) (e : Ev) : (SR.brk e).lp k = .nx e := rfl
@[simp] theorem SR.lp_bad (k : Ev → SR) : (SR.bad).lp k = .bad := rfl
@[simp] theorem SR.lp_ret (k : Ev → SR) (t : OT) (e : Ev) : (SR.ret t e).lp k = .ret t e := rfl
@[simp] theorem SR.lp_exn (k : Ev → SR) (x : Exn) (e : Ev) : (SR.exn x e).lp k = .exn x e := rfl
/-- behind a statement -/
def SR.sq (k : Ev → SR) : SR → SR
  | .nx e => k e
  | .ct e => .ct e
  | .brk e => .brk e
  | .bad => .bad
  | .ret t e => .ret t e
  | .exn x e => .exn x e
@[simp] theorem SR.sq_nx (k : Ev → SR) (e : Ev) : (SR.nx e).sq k = k e := rfl
@[simp] theorem SR.sq_ct (k : Ev → SR) (e : Ev) : (SR.ct e).sq k = .ct e := rfl
@[simp] theorem SR.sq_brk (k : Ev → SR) (e : Ev) : (SR.brk e).sq k = .brk e := rfl
@[simp] theorem SR.sq_bad (k : Ev → SR) : (SR.bad).sq k = .bad := rfl
@[simp] theorem SR.sq_ret (k : Ev → SR) (t : OT) (e : Ev) : (SR.ret t e).sq k = .ret t e := rfl
@[simp] theorem SR.sq_exn (k : Ev → SR) (x : Exn) (e : Ev) : (SR.exn x e).sq k = .exn x e := rfl
def forGo (tg : TGt) (body : Ev → SR) : List D → Ev → SR
  | [], e => .nx e
  | d :: ds, e => match bindT tg d e with
    | none => .bad
    | some e1 => (body e1).lp (forGo tg body ds)
def whGo (c : M Bool) (body : Ev → SR) : Nat → Ev → SR
  | 0, _ => .bad
  | n + 1, e => (c e).st fun b e1 => pickB b ((body e1).lp (whGo c body n)) (.nx e1)
/-- there a list stands that may be changed -/
@[simp] def lstAt (j : Nat) (ss : List Wy) (e : Ev) (r : SR) : SR := match (e.at j).bind fun t => nav e t ss with
  | some (.lst _) => r
  | _ => .bad
def extK (d : D) (f : List D → SR) : SR := match d with
  | .lst ds => f ds
  | _ => .bad
/-- an exception of the class c is caught -/
def tryS (c : Str) (h : List (Str × D) → Ev → SR) : SR → SR
  | .exn x e => if x.cls = c then h x.fs e else .bad
  | .bad => .bad
  | .nx e => .nx e
  | .ret t e => .ret t e
  | .brk e => .brk e
  | .ct e => .ct e
def retF (j : Nat) (f : Str) (fs : List (Str × D)) (e : Ev) : SR := if j < e.length then (match fs with
  | [(g, d)] => if g = f then .ret (.fz d) e else .bad
  | _ => .bad) else .bad
mutual
noncomputable def run1 : IS → Ev → SR
  | .asg j x, e => ((sem x).1 e).st fun t e1 => .nx (e1.set j (some t))
  | .asgT tg x, e => ((sem x).1 e).st fun t e1 => ofO (bindT tg t.view e1)
  | .par i j a b, e => ((evs [a, b]) e).st fun ts e2 => (match OT.views ts with
    | [t, u] => .nx ((e2.set i (some (.fz t))).set j (some (.fz u)))
    | _ => .bad)
  | .sto j ss k x, e => ((sem x).1 e).st fun t e1 => ((M.bind (M.get j) fun _ => M.bind (opd k (sem k).1) fun r => fin k r) e1).st fun d e2 => ofO (updAt j ss (stoO d t) e2)
  | .aug j _ g x, e => ((M.bind (M.get j) fun t => M.bind (opd x (sem x).1) fun r => M.bind (fin x r) fun d => M.lift (g t.view d)) e).st fun d e1 => .nx (e1.set j (some (.fz d)))
  | .app j ss x, e => lstAt j ss e (((sem x).1 e).st fun t e1 => ofO (updAt j ss (appO t) e1))
  | .ext j ss x, e => lstAt j ss e (((sem x).1 e).st fun t e1 => extK t.view fun ds => ofO (updAt j ss (extO ds) e1))
  | .ex x, e => ((sem x).1 e).st fun _ e1 => .nx e1
  | .ret x, e => ((sem x).1 e).st fun t e1 => .ret t e1
  | .retN, e => .ret (.fz .non) e
  | .iff c a b, e => ((sem c).2 e).st fun k e1 => pickB k (run a e1) (run b e1)
  | .for_ tg k its body, e => ((M.bind (evs its) fun ts => M.lift (itemsOf k (OT.views ts))) e).st fun xs e1 => forGo tg (run body) xs e1
  | .whl n c body, e => whGo (sem c).2 (run body) n e
  | .brk, e => .brk e
  | .cont, e => .ct e
  | .pass, e => .nx e
  | .sta j c f x, e => ((sem x).1 e).st fun t e1 => ofO (updAt j [] (staO c f t) e1)
  | .apq j ss x, e => (match e.at j with
    | some t0 => (match nav e t0 ss with
      | some (.lst _) => ((sem x).1 (e.set j none)).st fun t e1 => (match setAt e (appO t) t0 ss with
        | some t' => .nx (e1.set j (some t'))
        | none => .bad)
      | _ => .bad)
    | none => .bad)
  | .stp j ss w x, e => ((sem x).1 e).st fun t e1 => ofO (updAt j ss (stpO e1 w t) e1)
  | .aga j c f i, e => ofO (updAt j [] (agaO c f i) e)
  | .hk f, e => (match f e with
    | none => .bad
    | some (none, e') => .nx e'
    | some (some t, e') => .ret t e')
  | .tryR body c j f, e => tryS c (retF j f) (run body e)
  | .tryC body c x, e => tryS c (fun _ e1 => (noX ((sem x).1 e1)).st fun t e2 => .ret t e2) (run body e)
  | .rais _ mk es, e => ((M.bind (evs es) fun ts => M.lift (mk (OT.views ts))) e).st fun x e1 => .exn x e1
noncomputable def run : List IS → Ev → SR
  | [], e => .nx e
  | s :: ss, e => (run1 s e).sq (run ss)
end
/-- a def: how many names it has, which parameters it may change, its body -/
structure Def where
  n : Nat
  ms : List Bool
  body : List IS
@[simp] def keepO : List Bool → List Slot → List Slot
  | true :: ms, o :: os => o :: keepO ms os
  | false :: ms, _ :: os => none :: keepO ms os
  | _ :: ms, [] => none :: keepO ms []
  | [], _ => []
def endOf (ms : List Bool) : SR → Out
  | .nx e => .ok (.fz .non) (keepO ms e)
  | .ret t e => .ok t (keepO ms e)
  | .exn x e => .exn x (keepO ms e)
  | _ => .bad
noncomputable def Def.fn (f : Def) : Fn := fun as => endOf f.ms (run f.body (as ++ List.replicate (f.n - f.ms.length) none))
end Rx
end

section
/-! Rx: operations on values, what they yield (plain Lean). -/
namespace Rx
open PySem
/-! ### what they yield -/
def addD : D → D → Option OT
  | .int i, .int j => some (.fz (.int (i + j)))
  | .str x, .str y => if x.length + y.length ≤ sizeMax then some (.fz (.str (x ++ y))) else none
  | .lst xs, .lst ys => if xs.length + ys.length ≤ sizeMax then some (.ml (xs ++ ys)) else none
  | .tup xs, .tup ys => if xs.length + ys.length ≤ sizeMax then some (.fz (.tup (xs ++ ys))) else none
  | _, _ => none
def subD : D → D → Option OT
  | .int i, .int j => some (.fz (.int (i - j)))
  | _, _ => none
def mulD : D → D → Option OT
  | .int i, .int j => if i.natAbs < 18446744073709551616 ∨ j.natAbs < 18446744073709551616 then some (.fz (.int (i * j))) else none
  | .lst xs, .int k => if -9223372036854775808 ≤ k ∧ k < 9223372036854775808 ∧ xs.length * k.toNat ≤ sizeMax then some (.ml (List.replicate k.toNat xs).flatten) else none
  | .tup xs, .int k => if k = 1 then some (.fz (.tup xs)) else if xs ≠ [] ∧ 2 ≤ k ∧ k ≤ 1000 ∧ xs.length ≤ 1000 then some (.fz (.tup (List.replicate k.toNat xs).flatten)) else none
  | _, _ => none
def fdivD : D → D → Option OT
  | .int i, .int j => if 0 < j ∧ j < 1073741824 then some (.fz (.int (i / j))) else none
  | _, _ => none
def modD : D → D → Option OT
  | .int i, .int j => if 0 < j then some (.fz (.int (i % j))) else none
  | _, _ => none
def powD : D → D → Option OT
  | .int i, .int j => if 0 ≤ j ∧ j ≤ 1000000 ∧ i.natAbs < 2 ^ 64 then some (.fz (.int (i ^ j.toNat))) else none
  | _, _ => none
def ltD : D → D → Option Bool
  | .int i, .int j => some (decide (i < j))
  | _, _ => none
def leD : D → D → Option Bool
  | .int i, .int j => some (decide (i ≤ j))
  | _, _ => none
def gtD : D → D → Option Bool
  | .int i, .int j => some (decide (j < i))
  | _, _ => none
def geD : D → D → Option Bool
  | .int i, .int j => some (decide (j ≤ i))
  | _, _ => none
def eqD (a b : D) : Option Bool := if D.eqok 60 a = true ∧ D.eqok 60 b = true then some (D.eqv a b) else none
def neD (a b : D) : Option Bool := if D.eqok 60 a = true ∧ D.eqok 60 b = true then some (!D.eqv a b) else none
def inSeq (a : D) (xs : List D) : Option Bool := if D.eqok 60 a = true ∧ D.eqoks 60 xs = true then some (xs.any fun z => D.eqv z a) else none
noncomputable def inD (a b : D) : Option Bool := match b with
  | .lst xs => inSeq a xs
  | .tup xs => inSeq a xs
  | .str y => (match a with
    | .str [c] => some (decide (c ∈ y))
    | _ => none)
  | .dic kvs => if isKey a = true then some (hasD kvs a) else none
  | _ => none
noncomputable def ninD (a b : D) : Option Bool := (inD a b).map (!·)
/-- a dict of pairs -/
noncomputable def pairsD : List D → List (D × D) → Option (List (D × D))
  | [], acc => some acc
  | .tup [k, v] :: r, acc => if isKey k = true then pairsD r (putD acc k v) else none
  | _ :: _, _ => none
noncomputable def dictB : List D → Option OT
  | [.lst xs] => (pairsD xs []).map .dic
  | [.dic kvs] => some (.dic kvs)
  | _ => none
def minB : List D → Option OT
  | [.int i, .int j] => some (.fz (.int (if j < i then j else i)))
  | _ => none
/-- d.get(k) -/
noncomputable def getDk : D → List D → Option OT
  | .dic kvs, [k] => if isKey k = true then some (.fz ((lookD kvs k).getD .non)) else none
  | _, _ => none
/-- is: None, True, False -/
def isD (a b : D) : Option Bool := match b with
  | .non => (match a with
    | .non => some true
    | _ => some false)
  | .bl y => (match a with
    | .bl x => some (x == y)
    | _ => none)
  | _ => none
def nisD (a b : D) : Option Bool := (isD a b).map (!·)
def negD : D → Option D
  | .int i => some (.int (-i))
  | _ => none
def lenD : List D → Option OT
  | [.str s] => some (.fz (intD s.length))
  | [.tup xs] => some (.fz (intD xs.length))
  | [.lst xs] => some (.fz (intD xs.length))
  | [.lk xs] => some (.fz (intD xs.length))
  | [.dic kvs] => some (.fz (intD kvs.length))
  | _ => none
def absD : List D → Option OT
  | [.int i] => some (.fz (.int (if i < 0 then -i else i)))
  | _ => none
def intB : List D → Option OT
  | [.int i] => some (.fz (.int i))
  | [.bl k] => some (.fz (.int (if k then 1 else 0)))
  | _ => none

def blsOf : List D → Option (List Bool)
  | [] => some []
  | .bl b :: r => (blsOf r).map (b :: ·)
  | _ :: _ => none
def allB : List D → Option OT
  | [.lst xs] => (blsOf xs).map fun bs => .fz (.bl (bs.all id))
  | _ => none
def anyB : List D → Option OT
  | [.lst xs] => (blsOf xs).map fun bs => .fz (.bl (bs.any id))
  | _ => none
def listB : List D → Option OT
  | [.lst xs] => some (.ml xs)
  | [.lk xs] => some (.ml xs)
  | [.tup xs] => some (.ml xs)
  | _ => none
def tupB : List D → Option OT
  | [.lst xs] => some (.fz (.tup xs))
  | [.tup xs] => some (.fz (.tup xs))
  | _ => none
def isiB (d : D) : String → Option Bool
  | "bool" => d.ty.map (· == "bool")
  | "int" => d.ty.map fun t => t == "int" || t == "bool"
  | "str" => d.ty.map (· == "str")
  | "tuple" => d.ty.map (· == "tuple")
  | "list" => d.ty.map (· == "list")
  | "dict" => d.ty.map (· == "dict")
  | _ => none
def isiD (T : String) : D → List D → Option OT := fun d _ => (isiB d T).map fun b => .fz (.bl b)
@[simp] theorem addD_int (i j : Int) : addD (.int i) (.int j) = some (.fz (.int (i + j))) := rfl
@[simp] theorem addD_str (x y : List Nat) : addD (.str x) (.str y) = if x.length + y.length ≤ sizeMax then some (.fz (.str (x ++ y))) else none := rfl
@[simp] theorem addD_lst (xs ys : List D) : addD (.lst xs) (.lst ys) = if xs.length + ys.length ≤ sizeMax then some (.ml (xs ++ ys)) else none := rfl
@[simp] theorem addD_tup (xs ys : List D) : addD (.tup xs) (.tup ys) = if xs.length + ys.length ≤ sizeMax then some (.fz (.tup (xs ++ ys))) else none := rfl
@[simp] theorem subD_int (i j : Int) : subD (.int i) (.int j) = some (.fz (.int (i - j))) := rfl
@[simp] theorem modD_int (i j : Int) : modD (.int i) (.int j) = if 0 < j then some (.fz (.int (i % j))) else none := rfl
@[simp] theorem ltD_int (i j : Int) : ltD (.int i) (.int j) = some (decide (i < j)) := rfl
@[simp] theorem leD_int (i j : Int) : leD (.int i) (.int j) = some (decide (i ≤ j)) := rfl
@[simp] theorem gtD_int (i j : Int) : gtD (.int i) (.int j) = some (decide (j < i)) := rfl
@[simp] theorem geD_int (i j : Int) : geD (.int i) (.int j) = some (decide (j ≤ i)) := rfl
@[simp] theorem lenD_str (xs : List Nat) : lenD [.str xs] = some (.fz (intD xs.length)) := rfl
@[simp] theorem lenD_tup (xs : List D) : lenD [.tup xs] = some (.fz (intD xs.length)) := rfl
@[simp] theorem lenD_lst (xs : List D) : lenD [.lst xs] = some (.fz (intD xs.length)) := rfl
@[simp] theorem lenD_lk (xs : List D) : lenD [.lk xs] = some (.fz (intD xs.length)) := rfl
@[simp] theorem lenD_dic (xs : List (D × D)) : lenD [.dic xs] = some (.fz (intD xs.length)) := rfl
@[simp] theorem absD_int (i : Int) : absD [.int i] = some (.fz (.int (if i < 0 then -i else i))) := rfl
@[simp] theorem intB_int (i : Int) : intB [.int i] = some (.fz (.int i)) := rfl
@[simp] theorem intB_bl (k : Bool) : intB [.bl k] = some (.fz (.int (if k then 1 else 0))) := rfl
@[simp] theorem truth_non : D.truth .non = some false := rfl
@[simp] theorem truth_bl (b : Bool) : D.truth (.bl b) = some b := rfl
@[simp] theorem truth_int (i : Int) : D.truth (.int i) = some (i != 0) := rfl
@[simp] theorem truth_str (s : List Nat) : D.truth (.str s) = some (!s.isEmpty) := rfl
@[simp] theorem truth_tup (s : List D) : D.truth (.tup s) = some (!s.isEmpty) := rfl
@[simp] theorem truth_lst (s : List D) : D.truth (.lst s) = some (!s.isEmpty) := rfl
@[simp] theorem truth_dic (s : List (D × D)) : D.truth (.dic s) = some (!s.isEmpty) := rfl
@[simp] theorem listB_lst (s : List D) : listB [.lst s] = some (.ml s) := rfl
@[simp] theorem listB_lk (s : List D) : listB [.lk s] = some (.ml s) := rfl
@[simp] theorem listB_tup (s : List D) : listB [.tup s] = some (.ml s) := rfl
@[simp] theorem tupB_lst (s : List D) : tupB [.lst s] = some (.fz (.tup s)) := rfl
@[simp] theorem tupB_tup (s : List D) : tupB [.tup s] = some (.fz (.tup s)) := rfl
/-- isinstance(x, C), x an instance of C -/
def isiC (c : Str) : D → List D → Option OT := fun d _ => match d with
  | .ins c' _ => if c' = c then some (.fz (.bl true)) else none
  | _ => none
/-- RightsError(reason) -/
def reOf : List D → Option Exn
  | [d] => some ⟨"RightsError", [("reason", d)]⟩
  | _ => none
end Rx
end

section
/-! Rx, part 1: what it means that a value of the machine is a tree of data, that a slot holds a thing; steps of the heap. -/
namespace Rx
open PySem PySem.Spec PyProof.Rows L2

def strOf (s : List Nat) : Str := ⟨s.toArray⟩
def keyD : Key → D
  | .inl i => .int i
  | .inr z => .str z.cps.toList
def keyOkS : Key → Prop
  | .inl _ => True
  | .inr z => z.length ≤ sizeLine ∧ ∀ c ∈ z.cps.toList, c < 0x110000

section
variable (K : PySem.W.Frag) (mg : Str → Option Value)
mutual
/-- v is the data d; all that it consists of stands in F -/
inductive DR (F : Hp) : V → D → Prop
  | non : DR F .non .non
  | bl (b : Bool) : DR F (.bl b) (.bl b)
  | int (i : Int) : DR F (.int i) (.int i)
  | str {s : List Nat} : s.length ≤ sizeLine → (∀ c ∈ s, c < 0x110000) → DR F (.str (strOf s)) (.str s)
  | tup {a : Addr} {vs : List V} {ds : List D} : SqT K F a vs → vs.length ≤ sizeLine → DRs F vs ds → DR F (.ref a) (.tup ds)
  | lst {a : Addr} {vs : List V} {ds : List D} : F a = some (.lst vs) → vs.length ≤ sizeLine → DRs F vs ds → DR F (.ref a) (.lst ds)
  | lk {a : Addr} {vs : List V} {ds : List D} : SqL K F a vs → vs.length ≤ sizeLine → DRs F vs ds → DR F (.ref a) (.lk ds)
  | dK {a : Addr} {kvs : List (Key × V)} {ds : List (D × D)} : F a = some (.dK kvs) → DRk F kvs ds → DR F (.ref a) (.dic ds)
  | ins {a C dx : Addr} {c : Str} {fs : List (Str × V)} {ds : List (Str × D)} : F a = some (.ins C dx fs) → mg c = some (.ref C) → DRf F fs ds → DR F (.ref a) (.ins c ds)
  | fn {a : Addr} {f : Str} : mg f = some (.ref a) → DR F (.ref a) (.fn f)
inductive DRs (F : Hp) : List V → List D → Prop
  | nil : DRs F [] []
  | cons {v : V} {d : D} {vs : List V} {ds : List D} : DR F v d → DRs F vs ds → DRs F (v :: vs) (d :: ds)
inductive DRk (F : Hp) : List (Key × V) → List (D × D) → Prop
  | nil : DRk F [] []
  | cons {k : Key} {v : V} {d : D} {vs : List (Key × V)} {ds : List (D × D)} : keyOkS k → DR F v d → DRk F vs ds → DRk F ((k, v) :: vs) ((keyD k, d) :: ds)
inductive DRf (F : Hp) : List (Str × V) → List (Str × D) → Prop
  | nil : DRf F [] []
  | cons {f : Str} {v : V} {d : D} {vs : List (Str × V)} {ds : List (Str × D)} : DR F v d → DRf F vs ds → DRf F ((f, v) :: vs) ((f, d) :: ds)
end
mutual
/-- v is the thing t: the addresses fp are its own -/
inductive OTR (H F : Hp) : V → OT → List Addr → Prop
  | fz {v : V} {d : D} : DR K mg F v d → OTR H F v (.fz d) []
  | lst {a : Addr} {vs : List V} {ts : List OT} {fp : List Addr} : H a = some (.lst vs) → vs.length ≤ sizeLine → OTRs H F vs ts fp → a ∉ fp → OTR H F (.ref a) (.lst ts) (a :: fp)
  | dK {a : Addr} {kvs : List (Key × V)} {ds : List (D × D)} : H a = some (.dK kvs) → DRk K mg F kvs ds → OTR H F (.ref a) (.dic ds) [a]
  | ins {a C dx : Addr} {c : Str} {fs : List (Str × V)} {ts : List (Str × OT)} {fp : List Addr} : H a = some (.ins C dx fs) → mg c = some (.ref C) → OTRf H F fs ts fp → a ∉ fp → OTR H F (.ref a) (.ins c ts) (a :: fp)
inductive OTRf (H F : Hp) : List (Str × V) → List (Str × OT) → List Addr → Prop
  | nil : OTRf H F [] [] []
  | cons {f : Str} {v : V} {t : OT} {vs : List (Str × V)} {ts : List (Str × OT)} {fp fps : List Addr} : OTR H F v t fp → OTRf H F vs ts fps → (∀ a ∈ fp, a ∉ fps) → OTRf H F ((f, v) :: vs) ((f, t) :: ts) (fp ++ fps)
inductive OTRs (H F : Hp) : List V → List OT → List Addr → Prop
  | nil : OTRs H F [] [] []
  | cons {v : V} {t : OT} {vs : List V} {ts : List OT} {fp fps : List Addr} : OTR H F v t fp → OTRs H F vs ts fps → (∀ a ∈ fp, a ∉ fps) → OTRs H F (v :: vs) (t :: ts) (fp ++ fps)
end
inductive SlR (H F : Hp) : Option V → Slot → List Addr → Prop
  | no {s : Option V} : SlR H F s none []
  | so {v : V} {t : OT} {fp : List Addr} : OTR K mg H F v t fp → SlR H F (some v) (some t) fp
inductive EvR (H F : Hp) : L2.St → Ev → List Addr → Prop
  | nil : EvR H F [] [] []
  | cons {s : Option V} {o : Slot} {σ : L2.St} {e : Ev} {fp fps : List Addr} : SlR K mg H F s o fp → EvR H F σ e fps → (∀ a ∈ fp, a ∉ fps) → EvR H F (s :: σ) (o :: e) (fp ++ fps)
end

section
variable {K : PySem.W.Frag} {mg : Str → Option Value} {H H' F F' : Hp}
theorem Same.seqT {a : Addr} {xs : List V} (e : Same H H') (h : SqT K H a xs) : SqT K H' a xs := by
  rcases h with (h | ⟨o, h⟩) | h
  · exact .inl (.inl (e _ _ h))
  · exact .inl (.inr ⟨o, e _ _ h⟩)
  · exact .inr h
mutual
theorem DR.mono (e : Same F F') : ∀ {v : V} {d : D}, DR K mg F v d → DR K mg F' v d
  | _, _, .non => .non
  | _, _, .bl b => .bl b
  | _, _, .int i => .int i
  | _, _, .str h h2 => .str h h2
  | _, _, .tup h hz r => .tup (Same.seqT e h) hz (DRs.mono e r)
  | _, _, .lst h hz r => .lst (e _ _ h) hz (DRs.mono e r)
  | _, _, .lk h hz r => .lk (e.seq h) hz (DRs.mono e r)
  | _, _, .dK h r => .dK (e _ _ h) (DRk.mono e r)
  | _, _, .ins h m r => .ins (e _ _ h) m (DRf.mono e r)
  | _, _, .fn m => .fn m
theorem DRs.mono (e : Same F F') : ∀ {vs : List V} {ds : List D}, DRs K mg F vs ds → DRs K mg F' vs ds
  | _, _, .nil => .nil
  | _, _, .cons h r => .cons (DR.mono e h) (DRs.mono e r)
theorem DRk.mono (e : Same F F') : ∀ {vs : List (Key × V)} {ds : List (D × D)}, DRk K mg F vs ds → DRk K mg F' vs ds
  | _, _, .nil => .nil
  | _, _, .cons k h r => .cons k (DR.mono e h) (DRk.mono e r)
theorem DRf.mono (e : Same F F') : ∀ {vs : List (Str × V)} {ds : List (Str × D)}, DRf K mg F vs ds → DRf K mg F' vs ds
  | _, _, .nil => .nil
  | _, _, .cons h r => .cons (DR.mono e h) (DRf.mono e r)
end
mutual
theorem OTR.keep (e : Same F F') : ∀ {v : V} {t : OT} {fp : List Addr}, (∀ a ∈ fp, ∀ o, H a = some o → H' a = some o) → OTR K mg H F v t fp → OTR K mg H' F' v t fp
  | _, _, _, _, .fz d => .fz (d.mono e)
  | _, _, _, k, .lst h hz r n => .lst (k _ List.mem_cons_self _ h) hz (OTRs.keep e (fun a ha => k a (List.mem_cons_of_mem _ ha)) r) n
  | _, _, _, k, .dK h r => .dK (k _ List.mem_cons_self _ h) (r.mono e)
  | _, _, _, k, .ins h m r n => .ins (k _ List.mem_cons_self _ h) m (OTRf.keep e (fun a ha => k a (List.mem_cons_of_mem _ ha)) r) n
theorem OTRf.keep (e : Same F F') : ∀ {vs : List (Str × V)} {ts : List (Str × OT)} {fp : List Addr}, (∀ a ∈ fp, ∀ o, H a = some o → H' a = some o) → OTRf K mg H F vs ts fp → OTRf K mg H' F' vs ts fp
  | _, _, _, _, .nil => .nil
  | _, _, _, k, .cons h r n => .cons (OTR.keep e (fun a ha => k a (List.mem_append_left _ ha)) h) (OTRf.keep e (fun a ha => k a (List.mem_append_right _ ha)) r) n
theorem OTRs.keep (e : Same F F') : ∀ {vs : List V} {ts : List OT} {fp : List Addr}, (∀ a ∈ fp, ∀ o, H a = some o → H' a = some o) → OTRs K mg H F vs ts fp → OTRs K mg H' F' vs ts fp
  | _, _, _, _, .nil => .nil
  | _, _, _, k, .cons h r n => .cons (OTR.keep e (fun a ha => k a (List.mem_append_left _ ha)) h) (OTRs.keep e (fun a ha => k a (List.mem_append_right _ ha)) r) n
end
theorem SlR.keep (e : Same F F') {s : Option V} {o : Slot} {fp : List Addr} (k : ∀ a ∈ fp, ∀ o, H a = some o → H' a = some o) (h : SlR K mg H F s o fp) : SlR K mg H' F' s o fp := by
  cases h with
  | no => exact .no
  | so h => exact .so (h.keep e k)
theorem EvR.keep (e : Same F F') : ∀ {σ : L2.St} {en : Ev} {fp : List Addr}, (∀ a ∈ fp, ∀ o, H a = some o → H' a = some o) → EvR K mg H F σ en fp → EvR K mg H' F' σ en fp
  | _, _, _, _, .nil => .nil
  | _, _, _, k, .cons h r n => .cons (h.keep e (fun a ha => k a (List.mem_append_left _ ha))) (EvR.keep e (fun a ha => k a (List.mem_append_right _ ha)) r) n
mutual
/-- what is owned is tracked -/
theorem OTR.there : ∀ {v : V} {t : OT} {fp : List Addr}, OTR K mg H F v t fp → ∀ a ∈ fp, ∃ o, H a = some o
  | _, _, _, .fz _ => fun _ h => nomatch h
  | _, _, _, .lst h _ r _ => fun a ha => by
    rcases List.mem_cons.mp ha with rfl | ha
    · exact ⟨_, h⟩
    · exact OTRs.there r a ha
  | _, _, _, .dK h _ => fun a ha => by
    rcases List.mem_cons.mp ha with rfl | ha
    · exact ⟨_, h⟩
    · cases ha
  | _, _, _, .ins h _ r _ => fun a ha => by
    rcases List.mem_cons.mp ha with rfl | ha
    · exact ⟨_, h⟩
    · exact OTRf.there r a ha
theorem OTRf.there : ∀ {vs : List (Str × V)} {ts : List (Str × OT)} {fp : List Addr}, OTRf K mg H F vs ts fp → ∀ a ∈ fp, ∃ o, H a = some o
  | _, _, _, .nil => fun _ h => nomatch h
  | _, _, _, .cons h r _ => fun a ha => by
    rcases List.mem_append.mp ha with ha | ha
    · exact OTR.there h a ha
    · exact OTRf.there r a ha
theorem OTRs.there : ∀ {vs : List V} {ts : List OT} {fp : List Addr}, OTRs K mg H F vs ts fp → ∀ a ∈ fp, ∃ o, H a = some o
  | _, _, _, .nil => fun _ h => nomatch h
  | _, _, _, .cons h r _ => fun a ha => by
    rcases List.mem_append.mp ha with ha | ha
    · exact OTR.there h a ha
    · exact OTRs.there r a ha
end
theorem SlR.there {s : Option V} {o : Slot} {fp : List Addr} (h : SlR K mg H F s o fp) : ∀ a ∈ fp, ∃ o, H a = some o := by
  cases h with
  | no => exact fun _ h => nomatch h
  | so h => exact h.there
theorem EvR.there : ∀ {σ : L2.St} {en : Ev} {fp : List Addr}, EvR K mg H F σ en fp → ∀ a ∈ fp, ∃ o, H a = some o
  | _, _, _, .nil => fun _ h => nomatch h
  | _, _, _, .cons h r _ => fun a ha => by
    rcases List.mem_append.mp ha with ha | ha
    · exact h.there a ha
    · exact EvR.there r a ha
/-- what is owned becomes data: F with the owned objects -/
def frzF (F H : Hp) (fp : List Addr) : Hp := fun a => if a ∈ fp then H a else F a
theorem frzF_in {fp : List Addr} {a : Addr} (h : a ∈ fp) : frzF F H fp a = H a := if_pos h
theorem frzF_out {fp : List Addr} {a : Addr} (h : a ∉ fp) : frzF F H fp a = F a := if_neg h
mutual
theorem OTR.frz (e : Same F F') : ∀ {v : V} {t : OT} {fp : List Addr}, (∀ a ∈ fp, F' a = H a) → OTR K mg H F v t fp → DR K mg F' v t.view
  | _, _, _, _, .fz d => d.mono e
  | _, _, _, k, .lst h hz r n => .lst ((k _ List.mem_cons_self).trans h) hz (OTRs.frz e (fun a ha => k a (List.mem_cons_of_mem _ ha)) r)
  | _, _, _, k, .dK h r => .dK ((k _ List.mem_cons_self).trans h) (r.mono e)
  | _, _, _, k, .ins h m r n => .ins ((k _ List.mem_cons_self).trans h) m (OTRf.frz e (fun a ha => k a (List.mem_cons_of_mem _ ha)) r)
theorem OTRf.frz (e : Same F F') : ∀ {vs : List (Str × V)} {ts : List (Str × OT)} {fp : List Addr}, (∀ a ∈ fp, F' a = H a) → OTRf K mg H F vs ts fp → DRf K mg F' vs (OT.viewf ts)
  | _, _, _, _, .nil => .nil
  | _, _, _, k, .cons h r n => .cons (OTR.frz e (fun a ha => k a (List.mem_append_left _ ha)) h) (OTRf.frz e (fun a ha => k a (List.mem_append_right _ ha)) r)
theorem OTRs.frz (e : Same F F') : ∀ {vs : List V} {ts : List OT} {fp : List Addr}, (∀ a ∈ fp, F' a = H a) → OTRs K mg H F vs ts fp → DRs K mg F' vs (OT.views ts)
  | _, _, _, _, .nil => .nil
  | _, _, _, k, .cons h r n => .cons (OTR.frz e (fun a ha => k a (List.mem_append_left _ ha)) h) (OTRs.frz e (fun a ha => k a (List.mem_append_right _ ha)) r)
end
theorem same_frzF {fp : List Addr} (h : ∀ a ∈ fp, F a = none) : Same F (frzF F H fp) := fun a o e => by
  by_cases q : a ∈ fp
  · rw [h a q] at e; cases e
  · rw [frzF_out q]; exact e
theorem frzF_same {fp : List Addr} (h : Same F H) : Same (frzF F H fp) H := fun a o e => by
  by_cases q : a ∈ fp
  · rw [frzF_in q] at e; exact e
  · rw [frzF_out q] at e; exact h a o e

/-- a step: data stays, what is tracked and not owned stays; data comes of what is new or was owned -/
structure Stp (H F : Hp) (fp : List Addr) (H' F' : Hp) (fp' : List Addr) : Prop where
  fz : Same F F'
  ke : ∀ a o, H a = some o → a ∉ fp → H' a = some o
  fr : ∀ a o, F' a = some o → F a ≠ none ∨ H a = none ∨ a ∈ fp
  fp : ∀ a ∈ fp', a ∈ fp ∨ H a = none
theorem Stp.refl {fp : List Addr} : Stp H F fp H F fp := ⟨fun _ _ h => h, fun _ _ h _ => h, fun a o h => .inl (by rw [h]; simp), fun _ h => .inl h⟩
theorem Stp.trans {H1 F1 H2 F2 : Hp} {fp fp1 fp2 : List Addr} (s : Stp H F fp H1 F1 fp1) (t : Stp H1 F1 fp1 H2 F2 fp2) : Stp H F fp H2 F2 fp2 := by
  have back : ∀ a, H1 a = none → H a = none ∨ a ∈ fp := fun a h => by
    by_cases q : a ∈ fp
    · exact .inr q
    · cases e : H a with
      | none => exact .inl rfl
      | some o => rw [s.ke a o e q] at h; cases h
  refine ⟨s.fz.trans t.fz, fun a o h n => t.ke a o (s.ke a o h n) fun q => ?_, fun a o h => ?_, fun a h => ?_⟩
  · rcases s.fp a q with q | q
    · exact n q
    · rw [h] at q; cases q
  · rcases t.fr a o h with q | q | q
    · cases e : F1 a with
      | none => exact absurd e q
      | some o1 => exact s.fr a o1 e
    · exact (back a q).elim (fun z => .inr (.inl z)) fun z => .inr (.inr z)
    · exact (s.fp a q).elim (fun z => .inr (.inr z)) fun z => .inr (.inl z)
  · rcases t.fp a h with q | q
    · exact s.fp a q
    · exact (back a q).elim .inr .inl
/-- a subset of what is owned -/
theorem Stp.sub {fp fp' fp2 : List Addr} (s : Stp H F fp H' F' fp') (h : ∀ a ∈ fp2, a ∈ fp') : Stp H F fp H' F' fp2 := ⟨s.fz, s.ke, s.fr, fun a q => s.fp a (h a q)⟩
/-- beside more that is owned -/
theorem Stp.frame {fp fp' gp : List Addr} (s : Stp H F fp H' F' fp') : Stp H F (fp ++ gp) H' F' (fp' ++ gp) :=
  ⟨s.fz, fun a o h n => s.ke a o h fun q => n (List.mem_append_left _ q), fun a o h => (s.fr a o h).imp id fun q => q.imp id fun z => List.mem_append_left _ z,
   fun a q => (List.mem_append.mp q).elim (fun z => (s.fp a z).imp (List.mem_append_left _) id) fun z => .inl (List.mem_append_right _ z)⟩
theorem Stp.frameL {fp fp' gp : List Addr} (s : Stp H F fp H' F' fp') : Stp H F (gp ++ fp) H' F' (gp ++ fp') :=
  ⟨s.fz, fun a o h n => s.ke a o h fun q => n (List.mem_append_right _ q), fun a o h => (s.fr a o h).imp id fun q => q.imp id fun z => List.mem_append_right _ z,
   fun a q => (List.mem_append.mp q).elim (fun z => .inl (List.mem_append_left _ z)) fun z => (s.fp a z).imp (List.mem_append_right _) id⟩
/-- what is owned and not handed on stands as it stood, and is no data -/
theorem Stp.held {fp fp' gp : List Addr} (s : Stp H F fp H' F' fp') (ht : ∀ a ∈ gp, ∃ o, H a = some o) (hd : ∀ a ∈ gp, a ∉ fp) (hf : ∀ a ∈ gp, F a = none) :
    (∀ a ∈ gp, ∀ o, H a = some o → H' a = some o) ∧ (∀ a ∈ gp, F' a = none) ∧ (∀ a ∈ gp, a ∉ fp') := by
  refine ⟨fun a ha o h => s.ke a o h (hd a ha), fun a ha => ?_, fun a ha q => ?_⟩
  · cases e : F' a with
    | none => rfl
    | some o =>
      obtain ⟨u, hu⟩ := ht a ha
      rcases s.fr a o e with q | q | q
      · exact absurd (hf a ha) q
      · rw [hu] at q; cases q
      · exact absurd q (hd a ha)
  · obtain ⟨u, hu⟩ := ht a ha
    rcases s.fp a q with q | q
    · exact hd a ha q
    · rw [hu] at q; cases q
/-- a new object, owned by nobody yet, as data -/
theorem Stp.newF {fp : List Addr} {p : Addr} {o : HO} (h : H p = none) (hF : Same F H) : Stp H F fp (upd H p o) (upd F p o) fp := by
  have hFp : F p = none := Same.free hF h
  refine ⟨fun a u e => ?_, fun a u e _ => ?_, fun a u e => ?_, fun a q => .inl q⟩
  · rw [upd_ne (ne_of_none e hFp)]; exact e
  · rw [upd_ne (ne_of_none e h)]; exact e
  · by_cases q : a = p
    · subst q; exact .inr (.inl h)
    · rw [upd_ne q] at e; exact .inl (by rw [e]; simp)
/-- a new object, owned -/
theorem Stp.newO {fp : List Addr} {p : Addr} {o : HO} (h : H p = none) : Stp H F fp (upd H p o) F (p :: fp) := by
  refine ⟨fun a u e => e, fun a u e _ => ?_, fun a u e => .inl (by rw [e]; simp), fun a q => ?_⟩
  · rw [upd_ne (ne_of_none e h)]; exact e
  · rcases List.mem_cons.mp q with rfl | q
    · exact .inr h
    · exact .inl q
theorem same_upd2 {p : Addr} {o : HO} (h : Same F H) : Same (upd F p o) (upd H p o) := fun a u e => by
  by_cases q : a = p
  · subst q; rw [upd_same] at e ⊢; exact e
  · rw [upd_ne q] at e ⊢; exact h a u e
theorem same_new {p : Addr} {o : HO} (h : Same F H) (hp : H p = none) : Same F (upd H p o) := fun a u e => by
  rw [upd_ne (ne_of_none (h a u e) hp)]; exact h a u e
/-- freezing what is owned -/
theorem Stp.frz {fp gp : List Addr} (hf : ∀ a ∈ gp, F a = none) (hs : ∀ a ∈ gp, a ∈ fp) : Stp H F fp H (frzF F H gp) fp :=
  ⟨same_frzF hf, fun _ _ h _ => h, fun a o h => by
    by_cases q : a ∈ gp
    · exact .inr (.inr (hs a q))
    · rw [frzF_out q] at h; exact .inl (by rw [h]; simp), fun _ h => .inl h⟩
/-- an owned object is written -/
theorem Stp.wr {fp : List Addr} {p : Addr} {o : HO} (h : p ∈ fp) : Stp H F fp (upd H p o) F fp :=
  ⟨fun _ _ e => e, fun a u e n => by rw [upd_ne (fun z : a = p => n (by rw [z]; exact h))]; exact e, fun a u e => .inl (by rw [e]; simp), fun _ q => .inl q⟩
end
end Rx
end

section
/-! Rx, part 2: what an expression asks, by its evaluation (tD); operands. -/
namespace Rx
open PySem PySem.Spec PyProof.Rows L2

section
variable (K : PySem.W.Frag) (mg : Str → Option Value)
/-- the state: data below H, the slots, what they own -/
structure SS (H F : Hp) (σ : L2.St) (e : Ev) (fp : List Addr) : Prop where
  le : Same F H
  env : EvR K mg H F σ e fp
  own : ∀ a ∈ fp, F a = none
/-- behind an expression that yields t: v -/
structure VPost (H F : Hp) (fp : List Addr) (σ : L2.St) (e : Ev) (v : V) (t : OT) (H' F' : Hp) (fpe fpv : List Addr) : Prop where
  st : Stp H F fp H' F' (fpv ++ fpe)
  ss : SS K mg H' F' σ e fpe
  val : OTR K mg H' F' v t fpv
  dis : ∀ a ∈ fpv, a ∉ fpe
  own : ∀ a ∈ fpv, F' a = none
/-- behind several values -/
structure VsPost (H F : Hp) (fp : List Addr) (σ : L2.St) (e : Ev) (vs : List V) (ts : List OT) (H' F' : Hp) (fpe fpv : List Addr) : Prop where
  st : Stp H F fp H' F' (fpv ++ fpe)
  ss : SS K mg H' F' σ e fpe
  val : OTRs K mg H' F' vs ts fpv
  dis : ∀ a ∈ fpv, a ∉ fpe
  own : ∀ a ∈ fpv, F' a = none
def ExR (H F : Hp) (x : Exn) (cls : Value) (d : Option Addr) : Prop :=
  ∃ (C dd : Addr) (fs : List (Str × V)), mg x.cls = some (.ref C) ∧ cls = .ref C ∧ d = some dd ∧ H dd = some (.xd fs) ∧ DRf K mg F fs x.fs
/-- what is wanted of an exception -/
def Xc (W : WX) (σ : L2.St) (H F : Hp) (fp : List Addr) (x : Exn) (e : Ev) : Prop :=
  ∀ (cls : Value) (d : Option Addr) (H' F' : Hp) (fpe : List Addr), Stp H F fp H' F' fpe → SS K mg H' F' σ e fpe → ExR K mg H' F' x cls d → W cls d σ H'
def WP {α : Type} (W : WX) (σ : L2.St) (H F : Hp) (fp : List Addr) (r : R α) (k : α → Ev → Prop) : Prop :=
  match r with
  | .bad => False
  | .ok a e => k a e
  | .exn x e => Xc K mg W σ H F fp x e
def FinV (H F : Hp) (fp : List Addr) (σ : L2.St) (Q : VK) : OT → Ev → Prop := fun t e => ∀ v H' F' fpe fpv, VPost K mg H F fp σ e v t H' F' fpe fpv → Q v H'
def FinVs (H F : Hp) (fp : List Addr) (σ : L2.St) (Q : List V → Hp → Prop) : List OT → Ev → Prop := fun ts e => ∀ vs H' F' fpe fpv, VsPost K mg H F fp σ e vs ts H' F' fpe fpv → Q vs H'
def FinB (H F : Hp) (fp : List Addr) (σ : L2.St) (Q : Bool → Hp → Prop) : Bool → Ev → Prop := fun b e => ∀ H' F' fpe, Stp H F fp H' F' fpe → SS K mg H' F' σ e fpe → Q b H'
/-- what an expression asks, by its evaluation m -/
def tD (W : WX) (m : M OT) : TE := fun σ H Q => ∃ F e fp, SS K mg H F σ e fp ∧ WP K mg W σ H F fp (m e) (FinV K mg H F fp σ Q)
def tDs (W : WX) (m : M (List OT)) : TA := fun σ H Q => ∃ F e fp, SS K mg H F σ e fp ∧ WP K mg W σ H F fp (m e) (FinVs K mg H F fp σ Q)
def tDb (W : WX) (m : M Bool) : TT := fun σ H Q => ∃ F e fp, SS K mg H F σ e fp ∧ WP K mg W σ H F fp (m e) (FinB K mg H F fp σ Q)
end
/-- what may be looked at: data, or an owned thing within which nothing is owned -/
inductive PR (K : PySem.W.Frag) (mg : Str → Option Value) (H F : Hp) : V → D → Prop
  | fz {v : V} {d : D} : DR K mg F v d → PR K mg H F v d
  | lst {a : Addr} {vs : List V} {ds : List D} : H a = some (.lst vs) → vs.length ≤ sizeLine → DRs K mg F vs ds → PR K mg H F (.ref a) (.lst ds)
  | dK {a : Addr} {kvs : List (Key × V)} {ds : List (D × D)} : H a = some (.dK kvs) → DRk K mg F kvs ds → PR K mg H F (.ref a) (.dic ds)
inductive PRs (K : PySem.W.Frag) (mg : Str → Option Value) (H F : Hp) : List V → List D → Prop
  | nil : PRs K mg H F [] []
  | cons {v : V} {d : D} {vs : List V} {ds : List D} : PR K mg H F v d → PRs K mg H F vs ds → PRs K mg H F (v :: vs) (d :: ds)

section
variable {K : PySem.W.Frag} {mg : Str → Option Value} {W : WX} {σ : L2.St} {H F H' F' H1 F1 : Hp} {fp fp1 fpe fpv : List Addr} {e : Ev}
theorem WP.bindR {α β : Type} {r : R α} {f : α → Ev → R β} {k : β → Ev → Prop} (h : WP K mg W σ H F fp (r.bind f) k) : WP K mg W σ H F fp r (fun a e => WP K mg W σ H F fp (f a e) k) := by
  cases r with
  | bad => exact h
  | ok a e => exact h
  | exn x e => exact h
theorem Xc.step {x : Exn} {e : Ev} {g : List Addr} (s : Stp H F fp H1 F1 (g ++ fp1)) (h : Xc K mg W σ H F fp x e) : Xc K mg W σ H1 F1 fp1 x e := fun cls d H' F' fpe st ss ex =>
  h cls d H' F' fpe ((s.trans st.frameL).sub fun a ha => List.mem_append_right _ ha) ss ex
theorem WP.step {α : Type} {r : R α} {k k' : α → Ev → Prop} {g : List Addr} (s : Stp H F fp H1 F1 (g ++ fp1)) (hk : ∀ a e, k a e → k' a e) (h : WP K mg W σ H F fp r k) : WP K mg W σ H1 F1 fp1 r k' := by
  cases r with
  | bad => exact h
  | ok a e => exact hk a e h
  | exn x e => exact Xc.step s h
theorem WP.mono {α : Type} {r : R α} {k k' : α → Ev → Prop} (hk : ∀ a e, k a e → k' a e) (h : WP K mg W σ H F fp r k) : WP K mg W σ H F fp r k' := by
  cases r with
  | bad => exact h
  | ok a e => exact hk a e h
  | exn x e => exact h
theorem FinV.step {Q : VK} {t : OT} {e : Ev} (s : Stp H F fp H1 F1 fp1) (h : FinV K mg H F fp σ Q t e) : FinV K mg H1 F1 fp1 σ Q t e := fun v H' F' fpe fpv p =>
  h v H' F' fpe fpv ⟨s.trans p.st, p.ss, p.val, p.dis, p.own⟩
theorem FinB.step {Q : Bool → Hp → Prop} {b : Bool} {e : Ev} (s : Stp H F fp H1 F1 fp1) (h : FinB K mg H F fp σ Q b e) : FinB K mg H1 F1 fp1 σ Q b e := fun H' F' fpe st ss =>
  h H' F' fpe (s.trans st) ss

/-! ### slots -/
theorem EvR.at : ∀ {σ : L2.St} {e : Ev} {fp : List Addr} {j : Nat} {t : OT}, EvR K mg H F σ e fp → e.at j = some t →
    ∃ v g, σ[j]? = some (some v) ∧ OTR K mg H F v t g ∧ (∀ a ∈ g, a ∈ fp)
  | _, _, _, _, _, .nil, h => by simp [Ev.at] at h
  | _, _, _, 0, _, .cons s r n, h => by
    have h : _ = some _ := h
    simp [Ev.at] at h
    subst h
    cases s with
    | so o => exact ⟨_, _, rfl, o, fun a ha => List.mem_append_left _ ha⟩
  | _, _, _, j + 1, _, .cons s r n, h => by
    obtain ⟨v, g, h1, h2, h3⟩ := EvR.at (j := j) r (by simpa [Ev.at] using h)
    exact ⟨v, g, by simpa using h1, h2, fun a ha => List.mem_append_right _ (h3 a ha)⟩
theorem EvR.length : ∀ {σ : L2.St} {e : Ev} {fp : List Addr}, EvR K mg H F σ e fp → σ.length = e.length
  | _, _, _, .nil => rfl
  | _, _, _, .cons _ r _ => by simp [EvR.length r]
/-- a slot is taken out: what it owned, and the rest -/
theorem EvR.take : ∀ {σ : L2.St} {e : Ev} {fp : List Addr} {j : Nat} {t : OT}, EvR K mg H F σ e fp → e.at j = some t →
    ∃ v g rest, σ[j]? = some (some v) ∧ OTR K mg H F v t g ∧ EvR K mg H F σ (e.set j none) rest ∧ (∀ a, a ∈ fp ↔ a ∈ g ∨ a ∈ rest) ∧ (∀ a ∈ g, a ∉ rest)
  | _, _, _, _, _, .nil, h => by simp [Ev.at] at h
  | _, _, _, 0, _, .cons (fp := g) (fps := fps) s r n, h => by
    simp [Ev.at] at h
    subst h
    cases s with
    | so o => exact ⟨_, _, [] ++ fps, rfl, o, .cons .no r (fun a ha => nomatch ha), fun a => by simp, fun a ha => by simpa using n a ha⟩
  | _, _, _, j + 1, _, .cons (fp := g0) s r n, h => by
    obtain ⟨v, g, rest, h1, h2, h3, h4, h5⟩ := EvR.take (j := j) r (by simpa [Ev.at] using h)
    refine ⟨v, g, g0 ++ rest, by simpa using h1, h2, .cons s h3 (fun a ha q => n a ha ((h4 a).mpr (.inr q))), fun a => ?_, fun a ha q => ?_⟩
    · rw [List.mem_append, List.mem_append, h4]
      constructor
      · rintro (q | q | q)
        · exact .inr (.inl q)
        · exact .inl q
        · exact .inr (.inr q)
      · rintro (q | q | q)
        · exact .inr (.inl q)
        · exact .inl q
        · exact .inr (.inr q)
    · rcases List.mem_append.mp q with q | q
      · exact n a q ((h4 a).mpr (.inl ha))
      · exact h5 a ha q
/-- a slot is set: what it held is let go -/
theorem EvR.set : ∀ {σ : L2.St} {e : Ev} {fp : List Addr} (j : Nat) {v : V} {t : OT} {g : List Addr}, EvR K mg H F σ e fp → OTR K mg H F v t g → (∀ a ∈ g, a ∉ fp) →
    ∃ fp', EvR K mg H F (σ.set j (some v)) (e.set j (some t)) fp' ∧ (∀ a ∈ fp', a ∈ g ∨ a ∈ fp)
  | _, _, _, _, _, _, _, .nil, _, _ => ⟨[], .nil, fun _ h => nomatch h⟩
  | _, _, _, 0, _, _, g, .cons (fp := g0) (fps := fps) s r n, o, d => ⟨g ++ fps, .cons (.so o) r (fun a ha q => d a ha (List.mem_append_right _ q)), fun a ha => (List.mem_append.mp ha).imp id fun q => List.mem_append_right _ q⟩
  | _, _, _, j + 1, _, _, g, .cons (fp := g0) (fps := fps) s r n, o, d => by
    by_cases hj : True
    · obtain ⟨fp', h1, h2⟩ := EvR.set j r o (fun a ha q => d a ha (List.mem_append_right _ q))
      refine ⟨g0 ++ fp', .cons s h1 (fun a ha q => ?_), fun a ha => ?_⟩
      · rcases h2 a q with q | q
        · exact d a q (List.mem_append_left _ ha)
        · exact n a ha q
      · rcases List.mem_append.mp ha with q | q
        · exact .inr (List.mem_append_left _ q)
        · exact (h2 a q).imp id fun z => List.mem_append_right _ z
    · exact absurd trivial hj
/-- a slot is put back at the value that it has -/
theorem EvR.put : ∀ {σ : L2.St} {e : Ev} {fp : List Addr} {j : Nat} {v : V} {t : OT} {g : List Addr}, EvR K mg H F σ e fp → σ[j]? = some (some v) → OTR K mg H F v t g → (∀ a ∈ g, a ∉ fp) →
    ∃ fp', EvR K mg H F σ (e.set j (some t)) fp' ∧ (∀ a ∈ fp', a ∈ g ∨ a ∈ fp) := fun {σ e fp j v t g} r h o d => by
  obtain ⟨fp', h1, h2⟩ := EvR.set j r o d
  have e1 : σ.set j (some v) = σ := by
    apply List.ext_getElem?
    intro i
    by_cases q : j = i
    · subst q
      have hl : j < σ.length := (List.getElem?_eq_some_iff.mp h).1
      rw [List.getElem?_set_self hl, h]
    · rw [List.getElem?_set_ne q]
  rw [e1] at h1
  exact ⟨fp', h1, h2⟩
/-- a slot is forgotten -/
theorem EvR.drop : ∀ {σ : L2.St} {e : Ev} {fp : List Addr} (j : Nat) (s : Option V), EvR K mg H F σ e fp → ∃ fp', EvR K mg H F (σ.set j s) (e.set j none) fp' ∧ (∀ a ∈ fp', a ∈ fp)
  | _, _, _, _, _, .nil => ⟨[], .nil, fun _ h => nomatch h⟩
  | _, _, _, 0, _, .cons (fp := g0) (fps := fps) s r n => ⟨[] ++ fps, .cons .no r (fun a ha => nomatch ha), fun a ha => List.mem_append_right _ (by simpa using ha)⟩
  | _, _, _, j + 1, s', .cons (fp := g0) (fps := fps) s r n => by
    obtain ⟨fp', h1, h2⟩ := EvR.drop j s' r
    exact ⟨g0 ++ fp', .cons s h1 (fun a ha q => n a ha (h2 a q)), fun a ha => (List.mem_append.mp ha).elim (fun q => List.mem_append_left _ q) fun q => List.mem_append_right _ (h2 a q)⟩
theorem EvR.forget {σ : L2.St} {e : Ev} {fp : List Addr} (j : Nat) (r : EvR K mg H F σ e fp) : ∃ fp', EvR K mg H F σ (e.set j none) fp' ∧ (∀ a ∈ fp', a ∈ fp) := by
  cases h : σ[j]? with
  | none =>
    have hl : σ.length ≤ j := List.getElem?_eq_none_iff.mp h
    rw [List.set_eq_of_length_le (by rw [← r.length]; exact hl)]
    exact ⟨fp, r, fun _ q => q⟩
  | some s =>
    obtain ⟨fp', h1, h2⟩ := EvR.drop j s r
    have hl : j < σ.length := (List.getElem?_eq_some_iff.mp h).1
    have e1 : σ.set j s = σ := by
      apply List.ext_getElem?
      intro i
      by_cases q : j = i
      · subst q; rw [List.getElem?_set_self hl, h]
      · rw [List.getElem?_set_ne q]
    rw [e1] at h1
    exact ⟨fp', h1, h2⟩

/-! ### peeks -/
theorem DRs.map_fz : ∀ {vs : List V} {ts : List OT} {fp : List Addr} {ds : List D}, OTRs K mg H F vs ts fp → allFz ts = some ds → DRs K mg F vs ds
  | _, _, _, _, .nil, h => by cases h; exact .nil
  | _, _, _, _, .cons (t := t) o r n, h => by
    cases o with
    | fz d =>
      simp only [allFz, Option.map_eq_some_iff] at h
      obtain ⟨ds', h1, rfl⟩ := h
      exact .cons d (DRs.map_fz r h1)
    | lst => simp [allFz] at h
    | dK => simp [allFz] at h
    | ins => simp [allFz] at h
theorem PR.of {v : V} {t : OT} {d : D} (o : OTR K mg H F v t fp) (h : t.flat = some d) : PR K mg H F v d := by
  cases o with
  | fz x => cases h; exact .fz x
  | lst h1 hz r n =>
    simp only [OT.flat, Option.map_eq_some_iff] at h
    obtain ⟨ds, h2, rfl⟩ := h
    exact .lst h1 hz (DRs.map_fz r h2)
  | dK h1 r => cases h; exact .dK h1 r
  | ins h1 m r n => cases h
theorem PR.all {v : V} {d : D} (le : Same F H) (p : PR K mg H F v d) : DR K mg H v d := by
  cases p with
  | fz x => exact x.mono le
  | lst h hz r => exact .lst h hz (r.mono le)
  | dK h r => exact .dK h (r.mono le)
end
end Rx
end

section
/-! Rx, part 3: expressions. -/
namespace Rx
open PySem PySem.Spec PyProof.Rows L2

theorem PE.imp {X : Cx} {e : Expr} {t t' : TE} (h : PE X e t) (f : ∀ σ H Q, t' σ H Q → t σ H Q) : PE X e t' := ⟨fun pins s σ H Q I q => h.run pins s σ H Q I (f σ H Q q)⟩
theorem PT.imp {X : Cx} {e : Expr} {t t' : TT} (h : PT X e t) (f : ∀ σ H Q, t' σ H Q → t σ H Q) : PT X e t' := ⟨fun pins s σ H Q I q => h.run pins s σ H Q I (f σ H Q q)⟩
theorem PA.imp {X : Cx} {e : List Expr} {t t' : TA} (h : PA X e t) (f : ∀ σ H Q, t' σ H Q → t σ H Q) : PA X e t' := ⟨fun pos pins s σ H Q I q => h.run pos pins s σ H Q I (f σ H Q q)⟩
theorem PW.imp {X : Cx} {e : Expr} {t t' : TT} (h : PW X e t) (f : ∀ σ H Q, t' σ H Q → t σ H Q) : PW X e t' := ⟨fun wh pins s σ H Q I q => h.run wh pins s σ H Q I (f σ H Q q)⟩

/-- what an operand asks -/
def tO (K : PySem.W.Frag) (mg : Str → Option Value) (W : WX) (x : IE) (m : M OT) : TE := match x.isVar with
  | some j => tVar j
  | none => tD K mg W m
/-- an operand that has been evaluated -/
def OpH (K : PySem.W.Frag) (mg : Str → Option Value) (F : Hp) (σ : L2.St) (x : IE) (r : Option D) (v : V) : Prop := match x.isVar with
  | some j => σ[j]? = some (some v)
  | none => ∃ d, r = some d ∧ DR K mg F v d

section
variable {K : PySem.W.Frag} {mg : Str → Option Value} {W : WX} {σ : L2.St} {H F H' F' H1 F1 H0 F0 : Hp} {fp fp1 fp0 fpe fpv : List Addr} {e : Ev}
theorem OpH.mono {x : IE} {r : Option D} {v : V} (s : Same F F') (h : OpH K mg F σ x r v) : OpH K mg F' σ x r v := by
  unfold OpH at h ⊢
  cases hx : x.isVar with
  | some j => rw [hx] at h; exact h
  | none =>
    rw [hx] at h
    obtain ⟨d, h1, h2⟩ := h
    exact ⟨d, h1, h2.mono s⟩
/-- freezing behind an expression -/
theorem VPost.frz {v : V} {t : OT} {e' : Ev} (p : VPost K mg H F fp σ e' v t H' F' fpe fpv) : Stp H F fp H' (frzF F' H' fpv) fpe ∧ SS K mg H' (frzF F' H' fpv) σ e' fpe ∧ DR K mg (frzF F' H' fpv) v t.view := by
  have sf : Same F' (frzF F' H' fpv) := same_frzF p.own
  refine ⟨(p.st.trans (Stp.frz p.own fun a ha => List.mem_append_left _ ha)).sub fun a ha => List.mem_append_right _ ha, ⟨frzF_same p.ss.le, p.ss.env.keep sf fun _ _ _ h => h, fun a ha => ?_⟩, p.val.frz sf fun a ha => frzF_in ha⟩
  rw [frzF_out (fun q => p.dis a q ha)]
  exact p.ss.own a ha
theorem VsPost.frz {v : List V} {t : List OT} {e' : Ev} (p : VsPost K mg H F fp σ e' v t H' F' fpe fpv) : Stp H F fp H' (frzF F' H' fpv) fpe ∧ SS K mg H' (frzF F' H' fpv) σ e' fpe ∧ DRs K mg (frzF F' H' fpv) v (OT.views t) := by
  have sf : Same F' (frzF F' H' fpv) := same_frzF p.own
  refine ⟨(p.st.trans (Stp.frz p.own fun a ha => List.mem_append_left _ ha)).sub fun a ha => List.mem_append_right _ ha, ⟨frzF_same p.ss.le, p.ss.env.keep sf fun _ _ _ h => h, fun a ha => ?_⟩, p.val.frz sf fun a ha => frzF_in ha⟩
  rw [frzF_out (fun q => p.dis a q ha)]
  exact p.ss.own a ha
theorem opd_use {β : Type} {x : IE} {m : M OT} {f : Option D → Ev → R β} {k : β → Ev → Prop} {cont : V → Hp → Prop} (s0 : Stp H0 F0 fp0 H F fp) (ss : SS K mg H F σ e fp) (h : WP K mg W σ H0 F0 fp0 ((opd x m e).bind f) k)
    (c : ∀ v H1 F1 fp1 r e1, Stp H0 F0 fp0 H1 F1 fp1 → Same F F1 → SS K mg H1 F1 σ e1 fp1 → OpH K mg F1 σ x r v → WP K mg W σ H0 F0 fp0 (f r e1) k → cont v H1) : tO K mg W x m σ H cont := by
  unfold tO
  unfold opd at h
  unfold OpH at c
  cases hx : x.isVar with
  | some j =>
    rw [hx] at h c
    show ∃ v, _
    cases hj : e.at j with
    | none =>
      have : (M.bind (M.get j) (fun _ => M.pure (none : Option D)) e) = .bad := by simp [M.get, hj]
      simp only [this] at h
      exact h.elim
    | some t =>
      have e0 : (M.bind (M.get j) (fun _ => M.pure (none : Option D)) e) = .ok none e := by simp [M.get, hj]
      simp only [e0] at h
      obtain ⟨v, g, h1, h2, h3⟩ := ss.env.at hj
      exact ⟨v, h1, c v H F fp none e s0 (Same.refl F) ss h1 h⟩
  | none =>
    rw [hx] at h c
    refine ⟨F, e, fp, ss, ?_⟩
    cases hm : m e with
    | bad =>
      have e0 : (M.bind m (fun t => M.pure (some t.view)) e) = .bad := by simp [hm]
      simp only [e0] at h
      exact h.elim
    | exn x' e' =>
      have e0 : (M.bind m (fun t => M.pure (some t.view)) e) = .exn x' e' := by simp [hm]
      simp only [e0] at h
      exact Xc.step (g := []) s0 h
    | ok t e' =>
      have e0 : (M.bind m (fun t => M.pure (some t.view)) e) = .ok (some t.view) e' := by simp [hm]
      simp only [e0] at h
      intro v H' F' fpe fpv p
      obtain ⟨q1, q2, q3⟩ := p.frz
      exact c v H' _ fpe (some t.view) e' (s0.trans q1) q1.fz q2 ⟨t.view, rfl, q3⟩ h
theorem fin_use {β : Type} {x : IE} {r : Option D} {v : V} {f : D → Ev → R β} {k : β → Ev → Prop} (ss : SS K mg H F σ e fp) (o : OpH K mg F σ x r v) (h : WP K mg W σ H0 F0 fp0 ((fin x r e).bind f) k) :
    ∃ d, PR K mg H F v d ∧ WP K mg W σ H0 F0 fp0 (f d e) k := by
  unfold fin at h
  unfold OpH at o
  cases hx : x.isVar with
  | some j =>
    rw [hx] at h o
    cases hj : e.at j with
    | none =>
      have e0 : (M.bind (M.get j) (fun t => M.lift t.flat) e) = .bad := by simp [M.get, hj]
      simp only [e0] at h
      exact h.elim
    | some t =>
      cases ht : t.flat with
      | none =>
        have e0 : (M.bind (M.get j) (fun t => M.lift t.flat) e) = .bad := by simp [M.get, hj, ht]
        simp only [e0] at h
        exact h.elim
      | some d =>
        have e0 : (M.bind (M.get j) (fun t => M.lift t.flat) e) = .ok d e := by simp [M.get, hj, ht]
        simp only [e0] at h
        obtain ⟨v', g, h1, h2, h3⟩ := ss.env.at hj
        rw [o] at h1
        cases h1
        exact ⟨d, PR.of h2 ht, h⟩
  | none =>
    rw [hx] at h o
    obtain ⟨d, rfl, h2⟩ := o
    exact ⟨d, .fz h2, h⟩
theorem lift_use {α β : Type} {o : Option α} {f : α → Ev → R β} {k : β → Ev → Prop} (h : WP K mg W σ H0 F0 fp0 ((M.lift o e).bind f) k) : ∃ a, o = some a ∧ WP K mg W σ H0 F0 fp0 (f a e) k := by
  cases o with
  | none => exact h.elim
  | some a => exact ⟨a, rfl, h⟩

/-- behind an operation on values: it makes new things alone -/
def FinP (K : PySem.W.Frag) (mg : Str → Option Value) (H F : Hp) (t : OT) (Q : VK) : Prop :=
  ∀ v H' F' fpv, Stp H F [] H' F' fpv → Same F' H' → OTR K mg H' F' v t fpv → (∀ a ∈ fpv, F' a = none) → Q v H'
theorem finP_of {t : OT} {Q : VK} (ss : SS K mg H F σ e fp) (h : FinV K mg H F fp σ Q t e) : FinP K mg H F t Q := fun v H' F' fpv st le o ow => by
  obtain ⟨k1, k2, k3⟩ := st.held ss.env.there (fun a _ q => nomatch q) ss.own
  refine h v H' F' fp fpv ⟨by simpa using st.frame (gp := fp), ⟨le, ss.env.keep st.fz k1, k2⟩, o, fun a ha q => k3 a q ha, ow⟩
/-- .. the heap as it was -/
theorem FinP.same {d : D} {Q : VK} {v : V} (le : Same F H) (h : FinP K mg H F (.fz d) Q) (r : DR K mg F v d) : Q v H := h v H F [] Stp.refl le (.fz r) fun _ z => nomatch z
/-- .. a new object: data -/
theorem FinP.new {d : D} {Q : VK} {p : Addr} {o : HO} (le : Same F H) (h : FinP K mg H F (.fz d) Q) (hp : H p = none) (r : DR K mg (upd F p o) (.ref p) d) : Q (.ref p) (upd H p o) :=
  h _ _ (upd F p o) [] (Stp.newF hp le) (same_upd2 le) (.fz r) fun _ z => nomatch z
/-- .. a new list, owned -/
theorem FinP.newL {ds : List D} {vs : List V} {Q : VK} {p : Addr} (le : Same F H) (h : FinP K mg H F (.ml ds) Q) (hp : H p = none) (r : DRs K mg F vs ds) (hz : vs.length ≤ sizeLine) : Q (.ref p) (upd H p (.lst vs)) :=
  h _ _ F [p] (Stp.newO hp) (same_new le hp) (by
    have go : ∀ {vs : List V} {ds : List D}, DRs K mg F vs ds → OTRs K mg (upd H p (.lst vs)) F vs (ds.map .fz) [] := fun {vs ds} r => by
      have go2 : ∀ {vs : List V} {ds : List D} (H : Hp), DRs K mg F vs ds → OTRs K mg H F vs (ds.map .fz) [] := fun {vs} => by
        induction vs with
        | nil => intro ds H r; cases r; exact .nil
        | cons v vs ih =>
          intro ds H r
          cases r with
          | cons a b => exact .cons (fp := []) (fps := []) (.fz a) (ih H b) fun _ z => nomatch z
      exact go2 _ r
    exact .lst upd_same hz (go r) (fun z => nomatch z)) fun a ha => by
      have : a = p := by simpa using ha
      rw [this]
      exact Same.free le hp

/-! ### operations on values -/
def R2D (K : PySem.W.Frag) (mg : Str → Option Value) (g : D → D → Option OT) : R2 := fun x y H Q => ∃ F d1 d2 t, Same F H ∧ PR K mg H F x d1 ∧ PR K mg H F y d2 ∧ g d1 d2 = some t ∧ FinP K mg H F t Q
def OpD (X : Cx) (f : Value → Value → Sem Value) (g : D → D → Option OT) : Prop := OpR X f (R2D X.K X.mg g)
def R1D (K : PySem.W.Frag) (mg : Str → Option Value) (g : D → Option OT) : V → Hp → VK → Prop := fun x H Q => ∃ F d t, Same F H ∧ PR K mg H F x d ∧ g d = some t ∧ FinP K mg H F t Q
def RcD (K : PySem.W.Frag) (mg : Str → Option Value) (g : List D → Option OT) : List V → Hp → VK → Prop := fun xs H Q => ∃ F ds t, Same F H ∧ PRs K mg H F xs ds ∧ g ds = some t ∧ FinP K mg H F t Q
def RmD (K : PySem.W.Frag) (mg : Str → Option Value) (g : D → List D → Option OT) : V → List V → Hp → VK → Prop := fun x xs H Q => ∃ F d ds t, Same F H ∧ PR K mg H F x d ∧ PRs K mg H F xs ds ∧ g d ds = some t ∧ FinP K mg H F t Q
abbrev bl2 (g : D → D → Option Bool) : D → D → Option OT := fun a b => (g a b).map fun k => .fz (.bl k)
end

section
variable {X : Cx} {W : WX} {pos : Pos} {a b c e : Expr} {xa xb xc : IE} {ma mb mc : M OT} {te : TE}
abbrev tOX (X : Cx) (W : WX) (x : IE) (m : M OT) : TE := tO X.K X.mg W x m
abbrev tDX (X : Cx) (W : WX) (m : M OT) : TE := tD X.K X.mg W m
abbrev tDbX (X : Cx) (W : WX) (m : M Bool) : TT := tDb X.K X.mg W m
/-- two operands, then what is asked of their values -/
theorem op2_use {K : PySem.W.Frag} {mg : Str → Option Value} {σ : L2.St} {H F H0 F0 : Hp} {fp fp0 : List Addr} {en : Ev} {β : Type} {f : D → D → Option D → M β} {k : β → Ev → Prop} {cont : V → V → Hp → Prop}
    (s0 : Stp H0 F0 fp0 H F fp) (ss : SS K mg H F σ en fp) (h : WP K mg W σ H0 F0 fp0 (op2M xa xb ma mb f en) k)
    (cc : ∀ v w H2 F2 fp2 e2 x y rb, Stp H0 F0 fp0 H2 F2 fp2 → SS K mg H2 F2 σ e2 fp2 → PR K mg H2 F2 v x → PR K mg H2 F2 w y → OpH K mg F2 σ xb rb w → WP K mg W σ H0 F0 fp0 (f x y rb e2) k → cont v w H2) :
    tO K mg W xa ma σ H fun v H1 => tO K mg W xb mb σ H1 fun w H2 => cont v w H2 := by
  refine opd_use s0 ss h fun v H1 F1 fp1 ra e1 s1 _ ss1 o1 h1 => ?_
  refine opd_use s1 ss1 h1 fun w H2 F2 fp2 rb e2 s2 sf2 ss2 o2 h2 => ?_
  obtain ⟨x, px, h3⟩ := fin_use ss2 (o1.mono sf2) h2
  obtain ⟨y, py, h4⟩ := fin_use ss2 o2 h3
  exact cc v w H2 F2 fp2 e2 x y rb s2 ss2 px py o2 h4
theorem lift_end {K : PySem.W.Frag} {mg : Str → Option Value} {σ : L2.St} {H F H0 F0 : Hp} {fp fp0 : List Addr} {en : Ev} {o : Option OT} {Q : VK} (s : Stp H0 F0 fp0 H F fp) (ss : SS K mg H F σ en fp) (h : WP K mg W σ H0 F0 fp0 (M.lift o en) (FinV K mg H0 F0 fp0 σ Q)) : ∃ t, o = some t ∧ FinP K mg H F t Q := by
  cases o with
  | none => exact h.elim
  | some t => exact ⟨t, rfl, finP_of ss (FinV.step s h)⟩

/-! ### operators -/
theorem pe_bop {op : Operator} {g : D → D → Option OT} (ho : OpD X (binaryOp op) g) (ha : PE X a (tOX X W xa ma)) (hb : PE X b (tOX X W xb mb)) :
    PE X (.BinOp a op b pos) (tDX X W (bopM g xa xb ma mb)) := by
  refine PE.imp (pe_op ho ha hb) fun σ H Q h => ?_
  obtain ⟨F, e, fp, ss, h⟩ := h
  refine op2_use Stp.refl ss h fun v w H2 F2 fp2 e2 x y rb s2 ss2 px py _ h2 => ?_
  obtain ⟨t, ht, hq⟩ := lift_end s2 ss2 h2
  exact ⟨F2, x, y, t, ss2.le, px, py, ht, hq⟩
theorem bl2_some {g : D → D → Option Bool} {x y : D} {t : OT} (h : bl2 g x y = some t) : ∃ k, g x y = some k ∧ t = .fz (.bl k) := by
  unfold bl2 at h
  cases hg : g x y with
  | none => rw [hg] at h; cases h
  | some k => rw [hg] at h; exact ⟨k, rfl, (Option.some.inj h).symm⟩
theorem cmp_end {K : PySem.W.Frag} {mg : Str → Option Value} {σ : L2.St} {H F H0 F0 : Hp} {fp fp0 : List Addr} {en : Ev} {o : Option Bool} {Q : VK} (s : Stp H0 F0 fp0 H F fp) (ss : SS K mg H F σ en fp)
    (h : WP K mg W σ H0 F0 fp0 (blM o en) (FinV K mg H0 F0 fp0 σ Q)) : ∃ k, o = some k ∧ FinP K mg H F (.fz (.bl k)) Q := by
  cases o with
  | none => exact h.elim
  | some k => exact ⟨k, rfl, finP_of ss (FinV.step s h)⟩
theorem pe_cmpD {op : CmpOp} {g : D → D → Option Bool} (ho : OpD X (compareOp op) (bl2 g)) (ha : PE X a (tOX X W xa ma)) (hb : PE X b (tOX X W xb mb)) (hm : behindInMarks op b = false) :
    PE X (.Compare a [op] [b] pos) (tDX X W (cmpM g xa xb ma mb)) := by
  refine PE.imp (pe_cmpR ho ha hb hm) fun σ H Q h => ?_
  obtain ⟨F, e, fp, ss, h⟩ := h
  refine op2_use Stp.refl ss h fun v w H2 F2 fp2 e2 x y rb s2 ss2 px py _ h2 => ?_
  obtain ⟨k, hk, hq⟩ := cmp_end s2 ss2 h2
  exact ⟨F2, x, y, _, ss2.le, px, py, by unfold bl2; rw [hk]; rfl, hq⟩
theorem pt_cmpD {op : CmpOp} {g : D → D → Option Bool} (ho : OpD X (compareOp op) (bl2 g)) (ha : PE X a (tOX X W xa ma)) (hb : PE X b (tOX X W xb mb)) (hm : behindInMarks op b = false) :
    PT X (.Compare a [op] [b] pos) (tDbX X W (cmpT g xa xb ma mb)) := by
  refine PT.imp (pt_cmpR ho ha hb hm) fun σ H Q h => ?_
  obtain ⟨F, e, fp, ss, h⟩ := h
  refine op2_use (cont := fun v w H2 => R2D X.K X.mg (bl2 g) v w H2 fun x H' => ∃ k, x = .bl k ∧ Q k H') Stp.refl ss h fun v w H2 F2 fp2 e2 x y rb s2 ss2 px py _ h2 => ?_
  cases hg : g x y with
  | none => rw [hg] at h2; exact h2.elim
  | some k =>
    rw [hg] at h2
    have h2 : FinB X.K X.mg H F fp σ Q k e2 := h2
    refine ⟨F2, x, y, _, ss2.le, px, py, by unfold bl2; rw [hg]; rfl, fun v H' F' fpv st le o ow => ?_⟩
    cases o with
    | fz d =>
      cases d with
      | bl =>
        obtain ⟨k1, k2, k3⟩ := st.held ss2.env.there (fun a _ q => nomatch q) ss2.own
        exact ⟨k, rfl, h2 H' F' fp2 (s2.trans (by simpa using st.frame (gp := fp2))) ⟨le, ss2.env.keep st.fz k1, k2⟩⟩
end
end Rx
end

section
/-! Rx, part 4: expressions, further: names, constants, displays, and/or/not, tests, subscripts. -/
namespace Rx
open PySem PySem.Spec PyProof.Rows L2

theorem nm {P : Addr → Prop} : ∀ a ∈ ([] : List Addr), P a := fun _ z => nomatch z
section
variable {K : PySem.W.Frag} {mg : Str → Option Value} {W : WX} {σ : L2.St} {H F H' F' H1 F1 H0 F0 : Hp} {fp fp1 fp0 fpe fpv : List Addr} {e : Ev}
/-- an expression, then what is asked of its value -/
theorem tD_use {β : Type} {m : M OT} {f : OT → Ev → R β} {k : β → Ev → Prop} {cont : V → Hp → Prop} (s0 : Stp H0 F0 fp0 H F fp) (ss : SS K mg H F σ e fp) (h : WP K mg W σ H0 F0 fp0 ((m e).bind f) k)
    (c : ∀ v t H1 F1 fpe fpv e1, VPost K mg H F fp σ e1 v t H1 F1 fpe fpv → WP K mg W σ H0 F0 fp0 (f t e1) k → cont v H1) : tD K mg W m σ H cont := by
  refine ⟨F, e, fp, ss, ?_⟩
  cases hm : m e with
  | bad => rw [hm] at h; exact h.elim
  | exn x e1 => rw [hm] at h; exact Xc.step (g := []) s0 h
  | ok t e1 => rw [hm] at h; exact fun v H1 F1 fpe fpv p => c v t H1 F1 fpe fpv e1 p h
/-- .. its value frozen -/
theorem tD_useF {β : Type} {m : M OT} {f : OT → Ev → R β} {k : β → Ev → Prop} {cont : V → Hp → Prop} (s0 : Stp H0 F0 fp0 H F fp) (ss : SS K mg H F σ e fp) (h : WP K mg W σ H0 F0 fp0 ((m e).bind f) k)
    (c : ∀ v t H1 F1 fp1 e1, Stp H0 F0 fp0 H1 F1 fp1 → Same F F1 → SS K mg H1 F1 σ e1 fp1 → DR K mg F1 v t.view → WP K mg W σ H0 F0 fp0 (f t e1) k → cont v H1) : tD K mg W m σ H cont :=
  tD_use s0 ss h fun v t H1 F1 fpe fpv e1 p h1 => by
    obtain ⟨q1, q2, q3⟩ := p.frz
    exact c v t H1 _ fpe e1 (s0.trans q1) q1.fz q2 q3 h1
theorem tDs_use {β : Type} {m : M (List OT)} {f : List OT → Ev → R β} {k : β → Ev → Prop} {cont : List V → Hp → Prop} (s0 : Stp H0 F0 fp0 H F fp) (ss : SS K mg H F σ e fp) (h : WP K mg W σ H0 F0 fp0 ((m e).bind f) k)
    (c : ∀ v t H1 F1 fpe fpv e1, VsPost K mg H F fp σ e1 v t H1 F1 fpe fpv → WP K mg W σ H0 F0 fp0 (f t e1) k → cont v H1) : tDs K mg W m σ H cont := by
  refine ⟨F, e, fp, ss, ?_⟩
  cases hm : m e with
  | bad => rw [hm] at h; exact h.elim
  | exn x e1 => rw [hm] at h; exact Xc.step (g := []) s0 h
  | ok t e1 => rw [hm] at h; exact fun v H1 F1 fpe fpv p => c v t H1 F1 fpe fpv e1 p h
theorem tDb_use {β : Type} {m : M Bool} {f : Bool → Ev → R β} {k : β → Ev → Prop} {cont : Bool → Hp → Prop} (s0 : Stp H0 F0 fp0 H F fp) (ss : SS K mg H F σ e fp) (h : WP K mg W σ H0 F0 fp0 ((m e).bind f) k)
    (c : ∀ b H1 F1 fp1 e1, Stp H0 F0 fp0 H1 F1 fp1 → Same F F1 → SS K mg H1 F1 σ e1 fp1 → WP K mg W σ H0 F0 fp0 (f b e1) k → cont b H1) : tDb K mg W m σ H cont := by
  refine ⟨F, e, fp, ss, ?_⟩
  cases hm : m e with
  | bad => rw [hm] at h; exact h.elim
  | exn x e1 => rw [hm] at h; exact Xc.step (g := []) s0 h
  | ok b e1 => rw [hm] at h; exact fun H1 F1 fp1 st s1 => c b H1 F1 fp1 e1 (s0.trans st) st.fz s1 h
/-- the end of an expression: frozen data at hand -/
theorem endF {Q : VK} {v : V} {d : D} (s : Stp H0 F0 fp0 H F fp) (ss : SS K mg H F σ e fp) (r : DR K mg F v d) (h : FinV K mg H0 F0 fp0 σ Q (.fz d) e) : Q v H :=
  h v H F fp [] ⟨s, ss, .fz r, nm, nm⟩
theorem endV {Q : VK} {v : V} {t : OT} {e1 : Ev} (s : Stp H0 F0 fp0 H F fp) (p : VPost K mg H F fp σ e1 v t H1 F1 fpe fpv) (h : FinV K mg H0 F0 fp0 σ Q t e1) : Q v H1 :=
  h v H1 F1 fpe fpv ⟨s.trans p.st, p.ss, p.val, p.dis, p.own⟩
/-- the end: what the operation makes, from here -/
theorem goOn {m : M OT} {Q : VK} (s : Stp H0 F0 fp0 H F fp) (ss : SS K mg H F σ e fp) (h : WP K mg W σ H0 F0 fp0 (m e) (FinV K mg H0 F0 fp0 σ Q)) : tD K mg W m σ H Q :=
  ⟨F, e, fp, ss, WP.step (g := []) s (fun _ _ q => FinV.step s q) h⟩
theorem goOnB {m : M Bool} {Q : Bool → Hp → Prop} (s : Stp H0 F0 fp0 H F fp) (ss : SS K mg H F σ e fp) (h : WP K mg W σ H0 F0 fp0 (m e) (FinB K mg H0 F0 fp0 σ Q)) : tDb K mg W m σ H Q :=
  ⟨F, e, fp, ss, WP.step (g := []) s (fun _ _ q => FinB.step s q) h⟩
theorem endB {Q : Bool → Hp → Prop} {b : Bool} (s : Stp H0 F0 fp0 H F fp) (ss : SS K mg H F σ e fp) (h : FinB K mg H0 F0 fp0 σ Q b e) : Q b H := h H F fp s ss
theorem DRs.length : ∀ {vs : List V} {ds : List D}, DRs K mg F vs ds → vs.length = ds.length
  | _, _, .nil => rfl
  | _, _, .cons _ r => by simp [DRs.length r]
theorem OTRs.length : ∀ {vs : List V} {ts : List OT} {fp : List Addr}, OTRs K mg H F vs ts fp → vs.length = ts.length
  | _, _, _, .nil => rfl
  | _, _, _, .cons _ r _ => by simp [OTRs.length r]
end
theorem evs_length : ∀ {es : List IE} {e e' : Ev} {ts : List OT}, evs es e = .ok ts e' → ts.length = es.length
  | [], e, e', ts, h => by
    have : R.ok ([] : List OT) e = .ok ts e' := h
    cases this; rfl
  | x :: r, e, e', ts, h => by
    have h : ((sem x).1 e).bind (fun t e1 => (evs r e1).bind fun ts e2 => .ok (t :: ts) e2) = .ok ts e' := h
    cases h1 : (sem x).1 e with
    | bad => rw [h1] at h; cases h
    | exn => rw [h1] at h; cases h
    | ok t e1 =>
      rw [h1] at h
      simp only [R.bind] at h
      cases h2 : evs r e1 with
      | bad => rw [h2] at h; cases h
      | exn => rw [h2] at h; cases h
      | ok ts1 e2 =>
        rw [h2] at h
        simp only [R.bind] at h
        cases h
        simp [evs_length h2]

section
variable {X : Cx} {W : WX} {pos : Pos} {a b c e : Expr} {es rest : List Expr} {xa xb xc : IE} {ma mb mc : M OT} {te : TE}
/-! ### names, constants -/
theorem pe_read {j : Nat} (hv : PE X e (tVar j)) : PE X e (tDX X W (M.read j)) := by
  refine PE.imp hv fun σ H Q h => ?_
  obtain ⟨F, en, fp, ss, h⟩ := h
  unfold M.read at h
  cases hj : en.at j with
  | none => simp only [hj] at h; exact h.elim
  | some t =>
    obtain ⟨v, g, rest, h1, h2, h3, h4, h5⟩ := ss.env.take hj
    refine ⟨v, h1, ?_⟩
    have fz : ∀ {d : D}, t = .fz d → Q v H := fun {d} hd => by
      subst hd
      simp only [hj] at h
      cases h2 with
      | fz r => exact h v H F fp [] ⟨Stp.refl, ss, .fz r, nm, nm⟩
    have ow : (∀ d, t ≠ .fz d) → Q v H := fun hd => by
      have h : FinV X.K X.mg H F fp σ Q (.fz t.view) (en.set j (some (.fz t.view))) := by
        cases t with
        | fz d => exact absurd rfl (hd d)
        | lst ts => simp only [hj] at h; exact h
        | dic kvs => simp only [hj] at h; exact h
        | ins c fs => simp only [hj] at h; exact h
      have ng : ∀ a ∈ g, F a = none := fun a ha => ss.own a ((h4 a).mpr (.inl ha))
      have sf := same_frzF (H := H) ng
      have hd2 : DR X.K X.mg (frzF F H g) v t.view := h2.frz sf fun a ha => frzF_in ha
      obtain ⟨fp', k1, k2⟩ := EvR.put (g := []) (h3.keep sf (H' := H) fun _ _ _ q => q) h1 (.fz hd2) nm
      have k2' : ∀ a ∈ fp', a ∈ rest := fun a ha => (k2 a ha).elim (fun z => nomatch z) id
      have e1 : (en.set j none).set j (some (.fz t.view)) = en.set j (some (.fz t.view)) := by rw [List.set_set]
      rw [e1] at k1
      refine h v H (frzF F H g) fp' [] ⟨?_, ⟨frzF_same ss.le, k1, fun a ha => ?_⟩, .fz hd2, nm, nm⟩
      · exact (Stp.frz ng fun a ha => (h4 a).mpr (.inl ha)).sub fun a ha => (h4 a).mpr (.inr (k2' a (by simpa using ha)))
      · rw [frzF_out fun q => h5 a q (k2' a ha)]
        exact ss.own a ((h4 a).mpr (.inr (k2' a ha)))
    cases t with
    | fz d => exact fz rfl
    | lst ts => exact ow (fun d z => nomatch z)
    | dic kvs => exact ow (fun d z => nomatch z)
    | ins c fs => exact ow (fun d z => nomatch z)
theorem pe_move {j : Nat} (hv : PE X e (tVar j)) : PE X e (tDX X W (M.move j)) := by
  refine PE.imp hv fun σ H Q h => ?_
  obtain ⟨F, en, fp, ss, h⟩ := h
  unfold M.move at h
  cases hj : en.at j with
  | none => simp only [hj] at h; exact h.elim
  | some t =>
    obtain ⟨v, g, rest, h1, h2, h3, h4, h5⟩ := ss.env.take hj
    refine ⟨v, h1, ?_⟩
    have fz : ∀ {d : D}, t = .fz d → Q v H := fun {d} hd => by
      subst hd
      simp only [hj] at h
      cases h2 with
      | fz r => exact h v H F fp [] ⟨Stp.refl, ss, .fz r, nm, nm⟩
    have ow : (∀ d, t ≠ .fz d) → Q v H := fun hd => by
      have h : FinV X.K X.mg H F fp σ Q t (en.set j none) := by
        cases t with
        | fz d => exact absurd rfl (hd d)
        | lst ts => simp only [hj] at h; exact h
        | dic kvs => simp only [hj] at h; exact h
        | ins c fs => simp only [hj] at h; exact h
      refine h v H F rest g ⟨?_, ⟨ss.le, h3, fun a ha => ss.own a ((h4 a).mpr (.inr ha))⟩, h2, h5, fun a ha => ss.own a ((h4 a).mpr (.inl ha))⟩
      exact Stp.refl.sub fun a ha => (h4 a).mpr (List.mem_append.mp ha)
    cases t with
    | fz d => exact fz rfl
    | lst ts => exact ow (fun d z => nomatch z)
    | dic kvs => exact ow (fun d z => nomatch z)
    | ins c fs => exact ow (fun d z => nomatch z)
theorem pe_c {v : V} {d : D} (h : PE X e (tC v)) (r : ∀ F, DR X.K X.mg F v d) : PE X e (tDX X W (M.pure (.fz d))) := by
  refine PE.imp h fun σ H Q q => ?_
  obtain ⟨F, en, fp, ss, q⟩ := q
  exact q v H F fp [] ⟨Stp.refl, ss, .fz (r F), nm, nm⟩

/-! ### displays -/
theorem pa_nilD : PA X [] (tDs X.K X.mg W (evs [])) := by
  refine PA.imp pa_nil fun σ H Q q => ?_
  obtain ⟨F, en, fp, ss, q⟩ := q
  exact q [] H F fp [] ⟨Stp.refl, ss, .nil, nm, nm⟩
theorem pa_consD {x : IE} {r : List IE} (ha : PE X a (tDX X W (sem x).1)) (hr : PA X es (tDs X.K X.mg W (evs r))) (hs : starEach (a :: es) X.env = (false, eval a X.env) :: starEach es X.env) :
    PA X (a :: es) (tDs X.K X.mg W (evs (x :: r))) := by
  refine PA.imp (pa_cons ha hr hs) fun σ H Q q => ?_
  obtain ⟨F, en, fp, ss, q⟩ := q
  have q : WP X.K X.mg W σ H F fp (((sem x).1 en).bind fun t e1 => (evs r e1).bind fun ts e2 => .ok (t :: ts) e2) (FinVs X.K X.mg H F fp σ Q) := q
  refine tD_use Stp.refl ss q fun v t H1 F1 fpe fpv e1 p h1 => ?_
  refine ⟨F1, e1, fpe, p.ss, ?_⟩
  cases hm : evs r e1 with
  | bad => rw [hm] at h1; exact h1.elim
  | exn x e2 => rw [hm] at h1; exact Xc.step p.st h1
  | ok ts e2 =>
    rw [hm] at h1
    intro vs H2 F2 fpe2 fpv2 p2
    obtain ⟨k1, k2, k3⟩ := p2.st.held p.val.there p.dis p.own
    have h1 : FinVs X.K X.mg H F fp σ Q (t :: ts) e2 := h1
    refine h1 (v :: vs) H2 F2 fpe2 (fpv ++ fpv2) ⟨?_, p2.ss, .cons (p.val.keep p2.st.fz k1) p2.val fun a ha q => k3 a ha (List.mem_append_left _ q), fun a ha => ?_, fun a ha => ?_⟩
    · have := p.st.trans p2.st.frameL
      rw [List.append_assoc]
      exact this
    · rcases List.mem_append.mp ha with ha | ha
      · exact fun q => k3 a ha (List.mem_append_right _ q)
      · exact p2.dis a ha
    · rcases List.mem_append.mp ha with ha | ha
      · exact k2 a ha
      · exact p2.own a ha
theorem small_line {n : Nat} (h : n ≤ 100000) : n ≤ sizeLine := Nat.le_trans h (by decide)
theorem pe_tupD {xs : List IE} {n : Nat} (hl : xs.length ≤ 100000) (h : PA X es (tDs X.K X.mg W (evs xs))) : PE X (.Tuple es n pos) (tDX X W (M.bind (evs xs) fun ts => M.pure (.fz (.tup (OT.views ts))))) := by
  refine PE.imp (pe_tup h) fun σ H Q q => ?_
  obtain ⟨F, en, fp, ss, q⟩ := q
  have q : WP X.K X.mg W σ H F fp ((evs xs en).bind fun ts e1 => .ok (.fz (.tup (OT.views ts))) e1) (FinV X.K X.mg H F fp σ Q) := q
  have hlen : ∀ {ts e1}, evs xs en = .ok ts e1 → ts.length = xs.length := fun h => evs_length h
  refine ⟨F, en, fp, ss, ?_⟩
  cases hm : evs xs en with
  | bad => rw [hm] at q; exact q.elim
  | exn x e1 => rw [hm] at q; exact q
  | ok ts e1 =>
    rw [hm] at q
    intro vs H1 F1 fpe fpv p
    have hz : vs.length ≤ sizeLine := by rw [p.val.length, hlen hm]; exact small_line hl
    refine ⟨hz, fun pp hp => ?_⟩
    obtain ⟨q1, q2, q3⟩ := p.frz
    have st := q1.trans (Stp.newF (o := .tup vs) hp q2.le)
    have q : FinV X.K X.mg H F fp σ Q (.fz (.tup (OT.views ts))) e1 := q
    have sm : Same (frzF F1 H1 fpv) (upd (frzF F1 H1 fpv) pp (.tup vs)) := (Stp.newF (fp := fpe) (o := .tup vs) hp q2.le).fz
    refine q (.ref pp) _ _ fpe [] ⟨by simpa using st, ⟨same_upd2 q2.le, ?_, ?_⟩, .fz (.tup (SqT.of upd_same) hz (q3.mono sm)), nm, nm⟩
    · exact q2.env.keep sm fun a ha o e => by rw [upd_ne (ne_of_none e hp)]; exact e
    · intro a ha
      have : a ≠ pp := fun z => by
        obtain ⟨o, e⟩ := q2.env.there a ha
        rw [z, hp] at e; cases e
      rw [upd_ne this]
      exact q2.own a ha
theorem pe_lstD {xs : List IE} (hl : xs.length ≤ 100000) (h : PA X es (tDs X.K X.mg W (evs xs))) : PE X (.List es pos) (tDX X W (M.bind (evs xs) fun ts => M.pure (.lst ts))) := by
  refine PE.imp (pe_lst h) fun σ H Q q => ?_
  obtain ⟨F, en, fp, ss, q⟩ := q
  have q : WP X.K X.mg W σ H F fp ((evs xs en).bind fun ts e1 => .ok (.lst ts) e1) (FinV X.K X.mg H F fp σ Q) := q
  have hlen : ∀ {ts e1}, evs xs en = .ok ts e1 → ts.length = xs.length := fun h => evs_length h
  refine ⟨F, en, fp, ss, ?_⟩
  cases hm : evs xs en with
  | bad => rw [hm] at q; exact q.elim
  | exn x e1 => rw [hm] at q; exact q
  | ok ts e1 =>
    rw [hm] at q
    intro vs H1 F1 fpe fpv p
    have hz : vs.length ≤ sizeLine := by rw [p.val.length, hlen hm]; exact small_line hl
    refine ⟨hz, fun pp hp => ?_⟩
    have hk : ∀ {gp : List Addr}, (∀ a ∈ gp, ∃ o, H1 a = some o) → ∀ a ∈ gp, a ≠ pp := fun {gp} ht a ha z => by
      obtain ⟨o, e⟩ := ht a ha
      rw [z, hp] at e; cases e
    have k1 := hk p.val.there
    have k2 := hk p.ss.env.there
    have q : FinV X.K X.mg H F fp σ Q (.lst ts) e1 := q
    refine q (.ref pp) _ F1 fpe (pp :: fpv) ⟨?_, ⟨same_new p.ss.le hp, ?_, p.ss.own⟩, .lst upd_same hz ?_ (fun z => k1 pp z rfl), ?_, ?_⟩
    · have := p.st.trans (Stp.newO (o := .lst vs) hp)
      simpa using this
    · exact p.ss.env.keep (Same.refl _) fun a ha o e => by rw [upd_ne (k2 a ha)]; exact e
    · exact p.val.keep (Same.refl _) fun a ha o e => by rw [upd_ne (k1 a ha)]; exact e
    · intro a ha
      rcases List.mem_cons.mp ha with rfl | ha
      · exact fun z => k2 a z rfl
      · exact p.dis a ha
    · intro a ha
      rcases List.mem_cons.mp ha with rfl | ha
      · exact Same.free p.ss.le hp
      · exact p.own a ha

/-! ### tests -/
theorem str_ne (s : List Nat) : (!s.isEmpty) = (((strOf s).length : Int) != 0) := by
  cases s with
  | nil => rfl
  | cons c s =>
    have h : (strOf (c :: s)).length ≠ 0 := by simp [strOf, Str.length]
    simp [h]
theorem truV_of {K : PySem.W.Frag} {mg : Str → Option Value} {H F : Hp} {v : V} {d : D} {k : Bool} (le : Same F H) (p : PR K mg H F v d) (h : d.truth = some k) : TruV K v H k := by
  have q := p.all le
  cases q with
  | non => cases h; rfl
  | bl b => cases h; rfl
  | int i => cases h; rfl
  | str hl _ =>
    cases h
    refine ⟨by simpa [strOf, Str.length] using hl, ?_⟩
    exact str_ne _
  | tup hs hz r =>
    cases h
    refine .inr (.inl ⟨_, hs, ?_⟩)
    cases r <;> rfl
  | lst hs hz r =>
    cases h
    refine .inl ⟨_, SqL.of hs, ?_⟩
    cases r <;> rfl
  | lk hs hz r =>
    cases h
    refine .inl ⟨_, hs, ?_⟩
    cases r <;> rfl
  | dK hs r =>
    cases h
    refine .inr (.inr ⟨_, hs, ?_⟩)
    cases r <;> rfl
  | ins => cases h
  | fn => cases h
theorem pt_truthD (ha : PE X a (tOX X W xa ma)) (he : ∀ whole, isTrue a X.env whole = (do let v ← whole; standAt a.pos; holding [v] (truthy v))) : PT X a (tDbX X W (truthM xa ma)) := by
  refine PT.imp (pt_truth ha he) fun σ H Q h => ?_
  obtain ⟨F, en, fp, ss, h⟩ := h
  refine opd_use Stp.refl ss h fun v H1 F1 fp1 r e1 s1 _ ss1 o1 h1 => ?_
  obtain ⟨d, pd, h2⟩ := fin_use ss1 o1 h1
  have h2 : WP X.K X.mg W σ H F fp (M.lift d.truth e1) (FinB X.K X.mg H F fp σ Q) := h2
  cases hk : d.truth with
  | none => rw [hk] at h2; exact h2.elim
  | some k =>
    rw [hk] at h2
    exact ⟨k, truV_of ss1.le pd hk, endB s1 ss1 h2⟩
theorem pe_notD (ha : PE X a (tOX X W xa ma)) : PE X (.UnaryOp .Not a pos) (tDX X W (M.bind (truthM xa ma) fun b => M.pure (.fz (.bl (!b))))) := by
  refine PE.imp (pe_notT ha) fun σ H Q h => ?_
  obtain ⟨F, en, fp, ss, h⟩ := h
  have h : WP X.K X.mg W σ H F fp (((opd xa ma en).bind fun r e1 => (fin xa r e1).bind fun d e2 => M.lift d.truth e2).bind fun b e3 => .ok (.fz (.bl (!b))) e3) (FinV X.K X.mg H F fp σ Q) := h
  have hb : ∀ {α β γ : Type} (r : R α) (f : α → Ev → R β) (g : β → Ev → R γ), (r.bind f).bind g = r.bind fun a e => (f a e).bind g := fun r f g => by cases r <;> rfl
  rw [hb] at h
  refine opd_use Stp.refl ss h fun v H1 F1 fp1 r e1 s1 _ ss1 o1 h1 => ?_
  rw [hb] at h1
  obtain ⟨d, pd, h2⟩ := fin_use ss1 o1 h1
  have h2 : WP X.K X.mg W σ H F fp ((M.lift d.truth e1).bind fun b e3 => .ok (.fz (.bl (!b))) e3) (FinV X.K X.mg H F fp σ Q) := h2
  cases hk : d.truth with
  | none => rw [hk] at h2; exact h2.elim
  | some k =>
    rw [hk] at h2
    exact ⟨k, truV_of ss1.le pd hk, endF s1 ss1 (.bl _) h2⟩
theorem pt_notD {m : M Bool} (ha : PT X a (tDbX X W m)) : PT X (.UnaryOp .Not a pos) (tDbX X W (M.bind m fun b => M.pure (!b))) := by
  refine PT.imp (pt_not ha) fun σ H Q h => ?_
  obtain ⟨F, en, fp, ss, h⟩ := h
  exact tDb_use Stp.refl ss h fun b H1 F1 fp1 e1 s1 _ ss1 h1 => endB s1 ss1 h1
theorem pw_and1D {m : M Bool} (ha : PT X a (tDbX X W m)) : PW X (.BoolOp .And [a] pos) (tDbX X W (M.bind m fun b => (match b with | true => M.pure true | false => M.pure false))) := by
  refine PW.imp (pw_and1 ha) fun σ H Q h => ?_
  obtain ⟨F, en, fp, ss, h⟩ := h
  refine tDb_use Stp.refl ss h fun b H1 F1 fp1 e1 s1 _ ss1 h1 => ?_
  cases b <;> exact endB s1 ss1 h1
theorem pw_or1D {m : M Bool} (ha : PT X a (tDbX X W m)) : PW X (.BoolOp .Or [a] pos) (tDbX X W (M.bind m fun b => (match b with | false => M.pure false | true => M.pure true))) := by
  refine PW.imp (pw_or1 ha) fun σ H Q h => ?_
  obtain ⟨F, en, fp, ss, h⟩ := h
  refine tDb_use Stp.refl ss h fun b H1 F1 fp1 e1 s1 _ ss1 h1 => ?_
  cases b <;> exact endB s1 ss1 h1
theorem pw_andD {m m2 : M Bool} (ha : PT X a (tDbX X W m)) (hb : PW X (.BoolOp .And (b :: rest) pos) (tDbX X W m2)) : PW X (.BoolOp .And (a :: b :: rest) pos) (tDbX X W (M.bind m fun b => (match b with | true => m2 | false => M.pure false))) := by
  refine PW.imp (pw_and ha hb) fun σ H Q h => ?_
  obtain ⟨F, en, fp, ss, h⟩ := h
  refine tDb_use Stp.refl ss h fun b H1 F1 fp1 e1 s1 _ ss1 h1 => ?_
  cases b with
  | true => exact iteT (goOnB s1 ss1 h1)
  | false => exact iteF (endB s1 ss1 h1)
theorem pw_orD {m m2 : M Bool} (ha : PT X a (tDbX X W m)) (hb : PW X (.BoolOp .Or (b :: rest) pos) (tDbX X W m2)) : PW X (.BoolOp .Or (a :: b :: rest) pos) (tDbX X W (M.bind m fun b => (match b with | false => m2 | true => M.pure true))) := by
  refine PW.imp (pw_or ha hb) fun σ H Q h => ?_
  obtain ⟨F, en, fp, ss, h⟩ := h
  refine tDb_use Stp.refl ss h fun b H1 F1 fp1 e1 s1 _ ss1 h1 => ?_
  cases b with
  | true => exact iteT (endB s1 ss1 h1)
  | false => exact iteF (goOnB s1 ss1 h1)
theorem bl_of {K : PySem.W.Frag} {mg : Str → Option Value} {F : Hp} {v : V} {b : Bool} (h : DR K mg F v (.bl b)) : v = .bl b := by cases h; rfl
theorem pe_andD {m m2 : M OT} (ha : PE X a (tDX X W m)) (hb : PE X (.BoolOp .And (b :: rest) pos) (tDX X W m2)) : PE X (.BoolOp .And (a :: b :: rest) pos) (tDX X W (M.bind m fun t => andK t.view m2)) := by
  refine PE.imp (pe_and ha hb) fun σ H Q h => ?_
  obtain ⟨F, en, fp, ss, h⟩ := h
  refine tD_useF Stp.refl ss h fun v t H1 F1 fp1 e1 s1 _ ss1 r1 h1 => ?_
  have h1 : WP X.K X.mg W σ H F fp (andK t.view m2 e1) (FinV X.K X.mg H F fp σ Q) := h1
  generalize t.view = d at r1 h1
  cases d with
  | bl k =>
    have := bl_of r1
    subst this
    refine ⟨k, rfl, ?_⟩
    cases k with
    | true => exact iteT (goOn s1 ss1 h1)
    | false => exact iteF (endF s1 ss1 (.bl _) h1)
  | _ => exact False.elim h1
theorem pe_orD {m m2 : M OT} (ha : PE X a (tDX X W m)) (hb : PE X (.BoolOp .Or (b :: rest) pos) (tDX X W m2)) : PE X (.BoolOp .Or (a :: b :: rest) pos) (tDX X W (M.bind m fun t => orK t.view m2)) := by
  refine PE.imp (pe_or ha hb) fun σ H Q h => ?_
  obtain ⟨F, en, fp, ss, h⟩ := h
  refine tD_useF Stp.refl ss h fun v t H1 F1 fp1 e1 s1 _ ss1 r1 h1 => ?_
  have h1 : WP X.K X.mg W σ H F fp (orK t.view m2 e1) (FinV X.K X.mg H F fp σ Q) := h1
  generalize t.view = d at r1 h1
  cases d with
  | bl k =>
    have := bl_of r1
    subst this
    refine ⟨k, rfl, ?_⟩
    cases k with
    | true => exact iteT (endF s1 ss1 (.bl _) h1)
    | false => exact iteF (goOn s1 ss1 h1)
  | _ => exact False.elim h1
theorem pe_ifD {m : M Bool} {m1 m2 : M OT} (hc : PT X c (tDbX X W m)) (ha : PE X a (tDX X W m1)) (hb : PE X b (tDX X W m2)) : PE X (.IfExp c a b pos) (tDX X W (M.bind m fun k => (match k with
    | true => m1
    | false => m2))) := by
  refine PE.imp (pe_ifExp hc ha hb) fun σ H Q h => ?_
  obtain ⟨F, en, fp, ss, h⟩ := h
  refine tDb_use Stp.refl ss h fun b H1 F1 fp1 e1 s1 _ ss1 h1 => ?_
  cases b with
  | true => exact iteT (goOn s1 ss1 h1)
  | false => exact iteF (goOn s1 ss1 h1)
end
end Rx
end

section
/-! Rx, part 5: subscripts, slices, fields, calls. -/
namespace Rx
open PySem PySem.Spec PyProof.Rows L2

section
variable (K : PySem.W.Frag) (mg : Str → Option Value)
/-- which names are to have back what was handed on -/
inductive Bk (σ : L2.St) : List V → List (Slot × Option Nat) → Prop
  | nil : Bk σ [] []
  | cons {v : V} {o : Slot} {b : Option Nat} {vs : List V} {as : List (Slot × Option Nat)} : (∀ j, b = some j → σ[j]? = some (some v)) → Bk σ vs as → Bk σ (v :: vs) ((o, b) :: as)
structure AsPost (H F : Hp) (fp : List Addr) (σ : L2.St) (e : Ev) (vs : List V) (as : List (Slot × Option Nat)) (H' F' : Hp) (fpe fpa : List Addr) : Prop where
  st : Stp H F fp H' F' (fpa ++ fpe)
  ss : SS K mg H' F' σ e fpe
  val : EvR K mg H' F' (vs.map some) (as.map (·.1)) fpa
  dis : ∀ a ∈ fpa, a ∉ fpe
  own : ∀ a ∈ fpa, F' a = none
  bk : Bk σ vs as
def FinA (H F : Hp) (fp : List Addr) (σ : L2.St) (Q : List V → Hp → Prop) : List (Slot × Option Nat) → Ev → Prop := fun as e => ∀ vs H' F' fpe fpa, AsPost K mg H F fp σ e vs as H' F' fpe fpa → Q vs H'
def tDa (W : WX) (m : M (List (Slot × Option Nat))) : TA := fun σ H Q => ∃ F e fp, SS K mg H F σ e fp ∧ WP K mg W σ H F fp (m e) (FinA K mg H F fp σ Q)
def tArg (W : WX) (ref : Bool) (x : IE) (m : M OT) : TE := match refVar ref x with
  | some j => tVar j
  | none => tD K mg W m
/-- what a def promises: f -/
def spF (ms : List Bool) (f : Fn) : Sp := fun vs H Q E => vs.length = ms.length ∧ ∃ F as fp, Same F H ∧ EvR K mg H F (vs.map some) as fp ∧ (∀ a ∈ fp, F a = none) ∧ (match f as with
  | .bad => False
  | .ok r outs => ∀ v H' F' fpo fpv, Stp H F fp H' F' (fpv ++ fpo) → Same F' H' → EvR K mg H' F' (vs.map some) outs fpo → OTR K mg H' F' v r fpv → (∀ a ∈ fpv, a ∉ fpo) → (∀ a ∈ fpo, F' a = none) → (∀ a ∈ fpv, F' a = none) → Q v H'
  | .exn x outs => ∀ cls d H' F' fpo, Stp H F fp H' F' fpo → Same F' H' → EvR K mg H' F' (vs.map some) outs fpo → (∀ a ∈ fpo, F' a = none) → ExR K mg H' F' x cls d → E cls d H')
end

section
variable {K : PySem.W.Frag} {mg : Str → Option Value} {W : WX} {σ : L2.St} {H F H' F' H1 F1 H0 F0 : Hp} {fp fp1 fp0 fpe fpv : List Addr} {e : Ev}
theorem giveBack_ok : ∀ {vs : List V} {as : List (Slot × Option Nat)} {outs : List Slot} {fpo fpe : List Addr} {e : Ev}, Bk σ vs as → EvR K mg H F (vs.map some) outs fpo → EvR K mg H F σ e fpe → (∀ a ∈ fpo, a ∉ fpe) →
    ∃ fp', EvR K mg H F σ (giveBack as outs e) fp' ∧ (∀ a ∈ fp', a ∈ fpo ∨ a ∈ fpe)
  | [], _, _, _, fpe, _, .nil, _, r, _ => ⟨fpe, by unfold giveBack; exact r, fun _ q => .inr q⟩
  | v :: vs, _, _, _, fpe, e, .cons (o := o0) (b := b) hb bk, .cons (o := o) (fp := g) (fps := gs) s ro n, r, d => by
    cases b with
    | none =>
      obtain ⟨fp', h1, h2⟩ := giveBack_ok bk ro r fun a ha => d a (List.mem_append_right _ ha)
      exact ⟨fp', h1, fun a ha => (h2 a ha).imp (fun q => List.mem_append_right _ q) id⟩
    | some j =>
      have step : ∃ fp1, EvR K mg H F σ (e.set j o) fp1 ∧ (∀ a ∈ fp1, a ∈ g ∨ a ∈ fpe) := by
        cases s with
        | no =>
          obtain ⟨fp1, h1, h2⟩ := r.forget j
          exact ⟨fp1, h1, fun a ha => .inr (h2 a ha)⟩
        | so ot =>
          exact r.put (hb j rfl) ot fun a ha => d a (List.mem_append_left _ ha)
      obtain ⟨fp1, h1, h2⟩ := step
      obtain ⟨fp', h3, h4⟩ := giveBack_ok bk ro h1 fun a ha q => by
        rcases h2 a q with q | q
        · exact n a q ha
        · exact d a (List.mem_append_right _ ha) q
      refine ⟨fp', h3, fun a ha => ?_⟩
      rcases h4 a ha with q | q
      · exact .inl (List.mem_append_right _ q)
      · exact (h2 a q).imp (fun z => List.mem_append_left _ z) id
end

section
variable {X : Cx} {W : WX} {pos p : Pos} {a b c e : Expr} {es rest : List Expr} {xa xb xc : IE} {ma mb mc : M OT} {te : TE}
/-! ### arguments -/
theorem pa_nilA {ms : List Bool} : PA X [] (tDa X.K X.mg W (evArgs ms [])) := by
  refine PA.imp pa_nil fun σ H Q q => ?_
  obtain ⟨F, en, fp, ss, q⟩ := q
  have q : FinA X.K X.mg H F fp σ Q [] en := by cases ms <;> exact q
  exact q [] H F fp [] ⟨Stp.refl, ss, .nil, nm, nm, .nil⟩
theorem fmt_fz {K : PySem.W.Frag} {mg : Str → Option Value} {H F : Hp} {fp : List Addr} {σ : L2.St} {e : Ev} {v : V} {t : OT} {H' F' : Hp} {fpe fpv : List Addr} (p : VPost K mg H F fp σ e v t H' F' fpe fpv) :
    VPost K mg H F fp σ e v (.fz t.view) H' (frzF F' H' fpv) fpe [] := by
  obtain ⟨q1, q2, q3⟩ := p.frz
  exact ⟨q1, q2, .fz q3, nm, nm⟩
theorem pa_consA {ms : List Bool} {r : List IE} {x : IE} (ha : PE X a (tArg X.K X.mg W (ms.headD false) x (sem x).1)) (hr : PA X es (tDa X.K X.mg W (evArgs ms.tail r))) (hs : starEach (a :: es) X.env = (false, eval a X.env) :: starEach es X.env) :
    PA X (a :: es) (tDa X.K X.mg W (evArgs ms (x :: r))) := by
  refine PA.imp (pa_cons ha hr hs) fun σ H Q q => ?_
  obtain ⟨F, en, fp, ss, q⟩ := q
  have q : WP X.K X.mg W σ H F fp ((argOf (ms.headD false) x (sem x).1 en).bind fun s e1 => (evArgs ms.tail r e1).bind fun as e2 => .ok (s :: as) e2) (FinA X.K X.mg H F fp σ Q) := by
    cases ms <;> exact q
  -- what is behind the first argument
  have go : ∀ {v : V} {t : Slot} {b : Option Nat} {H1 F1 : Hp} {fpe fpv : List Addr} {e1 : Ev}, Stp H F fp H1 F1 (fpv ++ fpe) → SS X.K X.mg H1 F1 σ e1 fpe → SlR X.K X.mg H1 F1 (some v) t fpv → (∀ a ∈ fpv, ∃ o, H1 a = some o) → (∀ a ∈ fpv, a ∉ fpe) → (∀ a ∈ fpv, F1 a = none) → (∀ j, b = some j → σ[j]? = some (some v)) →
      WP X.K X.mg W σ H F fp ((evArgs ms.tail r e1).bind fun as e2 => .ok ((t, b) :: as) e2) (FinA X.K X.mg H F fp σ Q) → tDa X.K X.mg W (evArgs ms.tail r) σ H1 fun xs H2 => Q (v :: xs) H2 := fun {v t b H1 F1 fpe fpv e1} pst pss psl pth pdis pown hb h1 => by
    refine ⟨F1, e1, fpe, pss, ?_⟩
    cases hm : evArgs ms.tail r e1 with
    | bad => rw [hm] at h1; exact h1.elim
    | exn x e2 => rw [hm] at h1; exact Xc.step pst h1
    | ok as e2 =>
      rw [hm] at h1
      intro vs H2 F2 fpe2 fpa p2
      obtain ⟨k1, k2, k3⟩ := p2.st.held pth pdis pown
      have h1 : FinA X.K X.mg H F fp σ Q ((t, b) :: as) e2 := h1
      refine h1 (v :: vs) H2 F2 fpe2 (fpv ++ fpa) ⟨?_, p2.ss, .cons (psl.keep p2.st.fz k1) p2.val fun a ha q => k3 a ha (List.mem_append_left _ q), fun a ha => ?_, fun a ha => ?_, .cons hb p2.bk⟩
      · have := pst.trans p2.st.frameL
        rw [List.append_assoc]
        exact this
      · rcases List.mem_append.mp ha with ha | ha
        · exact fun q => k3 a ha (List.mem_append_right _ q)
        · exact p2.dis a ha
      · rcases List.mem_append.mp ha with ha | ha
        · exact k2 a ha
        · exact p2.own a ha
  unfold argOf at q
  unfold tArg
  cases hx : refVar (ms.headD false) x with
  | some j =>
    rw [hx] at q
    show ∃ v, _
    cases hj : en.at j with
    | none => simp only [M.bind_app, M.get, hj] at q; exact q.elim
    | some t =>
      obtain ⟨v, g, rest, h1, h2, h3, h4, h5⟩ := ss.env.take hj
      simp only [M.bind_app, M.get, hj] at q
      exact ⟨v, h1, go (fpv := []) (b := some j) Stp.refl ss .no nm nm nm (fun j' e => by cases e; exact h1) q⟩
  | none =>
    rw [hx] at q
    have q : WP X.K X.mg W σ H F fp (((sem x).1 en).bind fun t e1 => (evArgs ms.tail r e1).bind fun as e2 => .ok ((some (match ms.headD false with | true => t | false => .fz t.view), none) :: as) e2) (FinA X.K X.mg H F fp σ Q) := by
      cases h0 : (sem x).1 en with
      | bad => simp only [M.bind_app, h0] at q; exact q
      | exn x e1 => simp only [M.bind_app, h0] at q; exact q
      | ok t e1 => simp only [M.bind_app, h0] at q; exact q
    refine tD_use Stp.refl ss q fun v t H1 F1 fpe fpv e1 p h1 => ?_
    cases hm : ms.headD false with
    | true => rw [hm] at h1; exact go (b := none) p.st p.ss (.so p.val) p.val.there p.dis p.own (fun j e => nomatch e) h1
    | false =>
      rw [hm] at h1
      have p := fmt_fz p
      exact go (b := none) p.st p.ss (.so p.val) p.val.there p.dis p.own (fun j e => nomatch e) h1

theorem take_ok {K : PySem.W.Frag} {mg : Str → Option Value} {H F : Hp} {σ : L2.St} : ∀ {vs : List V} {as : List (Slot × Option Nat)} {fpa fpe : List Addr} {e : Ev}, Bk σ vs as → EvR K mg H F (vs.map some) (as.map (·.1)) fpa → EvR K mg H F σ e fpe → (∀ a ∈ fpa, a ∉ fpe) →
    takeAll as e = .bad ∨ ∃ as' e' fpa' fpe', takeAll as e = .ok as' e' ∧ EvR K mg H F (vs.map some) (as'.map (·.1)) fpa' ∧ EvR K mg H F σ e' fpe' ∧ (∀ a ∈ fpa', a ∉ fpe') ∧ (∀ a ∈ fpa', a ∈ fpa ∨ a ∈ fpe) ∧ (∀ a ∈ fpe', a ∈ fpa ∨ a ∈ fpe) ∧ Bk σ vs as'
  | [], _, _, fpe, e, .nil, .nil, r, _ => .inr ⟨[], e, [], fpe, rfl, .nil, r, nm, nm, fun _ q => .inr q, .nil⟩
  | v :: vs, _, _, fpe, e, .cons (as := as) (b := none) hb bk, .cons (o := o) (fp := g) (fps := gs) s ro n, r, d => by
    rcases take_ok bk ro r fun a ha => d a (List.mem_append_right _ ha) with h | ⟨as', e', fpa', fpe', h1, h2, h3, h4, h5, h6, h7⟩
    · left
      show (takeAll as e).bind _ = _
      rw [h]; rfl
    · right
      refine ⟨(o, none) :: as', e', g ++ fpa', fpe', ?_, .cons s h2 fun a ha q => ?_, h3, fun a ha q => ?_, fun a ha => ?_, fun a ha => ?_, .cons (fun j z => nomatch z) h7⟩
      · show (takeAll as e).bind _ = _
        rw [h1]; rfl
      · rcases h5 a q with z | z
        · exact n a ha z
        · exact d a (List.mem_append_left _ ha) z
      · rcases List.mem_append.mp ha with ha | ha
        · rcases h6 a q with z | z
          · exact n a ha z
          · exact d a (List.mem_append_left _ ha) z
        · exact h4 a ha q
      · rcases List.mem_append.mp ha with ha | ha
        · exact .inl (List.mem_append_left _ ha)
        · exact (h5 a ha).imp (fun z => List.mem_append_right _ z) id
      · exact (h6 a ha).imp (fun z => List.mem_append_right _ z) id
  | v :: vs, _, _, fpe, e, .cons (as := as) (b := some j) hb bk, .cons (o := o) (fp := g) (fps := gs) s ro n, r, d => by
    cases hj : e.at j with
    | none =>
      left
      show (takeRef j e).bind _ = _
      simp only [takeRef, hj]; rfl
    | some t =>
      obtain ⟨v', g', rest, h1, h2, h3, h4, h5⟩ := r.take hj
      have ev : v' = v := by
        have := hb j rfl
        rw [h1] at this
        injection this with this
        injection this
      subst ev
      have ow : ∀ (_ : takeRef j e = .ok (some t, some j) (e.set j none)), takeAll ((o, some j) :: as) e = .bad ∨ ∃ as' e' fpa' fpe', takeAll ((o, some j) :: as) e = .ok as' e' ∧ EvR K mg H F ((v' :: vs).map some) (as'.map (·.1)) fpa' ∧ EvR K mg H F σ e' fpe' ∧ (∀ a ∈ fpa', a ∉ fpe') ∧ (∀ a ∈ fpa', a ∈ g ++ gs ∨ a ∈ fpe) ∧ (∀ a ∈ fpe', a ∈ g ++ gs ∨ a ∈ fpe) ∧ Bk σ (v' :: vs) as' := fun ht => by
        rcases take_ok bk ro h3 (fun a ha q => d a (List.mem_append_right _ ha) ((h4 a).mpr (.inr q))) with h | ⟨as', e', fpa', fpe', k1, k2, k3, k4, k5, k6, k7⟩
        · left
          show (takeRef j e).bind _ = _
          rw [ht]
          show (takeAll as (e.set j none)).bind _ = _
          rw [h]; rfl
        · right
          refine ⟨(some t, some j) :: as', e', g' ++ fpa', fpe', ?_, .cons (.so h2) k2 fun a ha q => ?_, k3, fun a ha q => ?_, fun a ha => ?_, fun a ha => ?_, .cons (fun j' z => by cases z; exact h1) k7⟩
          · show (takeRef j e).bind _ = _
            rw [ht]
            show (takeAll as (e.set j none)).bind _ = _
            rw [k1]; rfl
          · rcases k5 a q with z | z
            · exact d a (List.mem_append_right _ z) ((h4 a).mpr (.inl ha))
            · exact h5 a ha z
          · rcases List.mem_append.mp ha with ha | ha
            · rcases k6 a q with z | z
              · exact d a (List.mem_append_right _ z) ((h4 a).mpr (.inl ha))
              · exact h5 a ha z
            · exact k4 a ha q
          · rcases List.mem_append.mp ha with ha | ha
            · exact .inr ((h4 a).mpr (.inl ha))
            · exact (k5 a ha).imp (fun z => List.mem_append_right _ z) fun z => (h4 a).mpr (.inr z)
          · exact (k6 a ha).imp (fun z => List.mem_append_right _ z) fun z => (h4 a).mpr (.inr z)
      cases t with
      | lst ts => exact ow (by simp only [takeRef, hj])
      | dic ts => exact ow (by simp only [takeRef, hj])
      | ins c ts => exact ow (by simp only [takeRef, hj])
      | fz dd =>
        have ht : takeRef j e = .ok (some (.fz dd), none) e := by simp only [takeRef, hj]
        cases h2 with
        | fz rd =>
          rcases take_ok bk ro r fun a ha => d a (List.mem_append_right _ ha) with h | ⟨as', e', fpa', fpe', k1, k2, k3, k4, k5, k6, k7⟩
          · left
            show (takeRef j e).bind _ = _
            rw [ht]
            show (takeAll as e).bind _ = _
            rw [h]; rfl
          · right
            refine ⟨(some (.fz dd), none) :: as', e', fpa', fpe', ?_, .cons (fp := []) (fps := fpa') (.so (.fz rd)) k2 nm, k3, k4, fun a ha => ?_, fun a ha => ?_, .cons (fun j' z => nomatch z) k7⟩
            · show (takeRef j e).bind _ = _
              rw [ht]
              show (takeAll as e).bind _ = _
              rw [k1]; rfl
            · exact (k5 a ha).imp (fun z => List.mem_append_right _ z) id
            · exact (k6 a ha).imp (fun z => List.mem_append_right _ z) id
theorem AsPost.take {K : PySem.W.Frag} {mg : Str → Option Value} {W : WX} {H F : Hp} {fp : List Addr} {σ : L2.St} {e : Ev} {vs : List V} {as : List (Slot × Option Nat)} {H1 F1 : Hp} {fpe fpa : List Addr} {f : Fn} {Q : VK} (p : AsPost K mg H F fp σ e vs as H1 F1 fpe fpa) (h : WP K mg W σ H F fp (callF f as e) (FinV K mg H F fp σ Q)) :
    ∃ as' e' fpe' fpa', AsPost K mg H F fp σ e' vs as' H1 F1 fpe' fpa' ∧ WP K mg W σ H F fp (callG f as' e') (FinV K mg H F fp σ Q) := by
  have h : WP K mg W σ H F fp ((takeAll as e).bind fun as e => callG f as e) (FinV K mg H F fp σ Q) := h
  rcases take_ok p.bk p.val p.ss.env p.dis with h0 | ⟨as', e', fpa', fpe', k1, k2, k3, k4, k5, k6, k7⟩
  · rw [h0] at h; exact h.elim
  · rw [k1] at h
    refine ⟨as', e', fpe', fpa', ⟨p.st.sub fun a ha => ?_, ⟨p.ss.le, k3, fun a ha => (k6 a ha).elim (p.own a) (p.ss.own a)⟩, k2, k4, fun a ha => (k5 a ha).elim (p.own a) (p.ss.own a), k7⟩, h⟩
    rcases List.mem_append.mp ha with ha | ha
    · exact List.mem_append.mpr (k5 a ha)
    · exact List.mem_append.mpr (k6 a ha)
/-! ### calls of defs -/
theorem call_end {ms : List Bool} {f : Fn} {σ : L2.St} {H F : Hp} {fp : List Addr} {Q : VK} {vs : List V} {as : List (Slot × Option Nat)} {e1 : Ev} {H1 F1 : Hp} {fpe fpa : List Addr} (hl : as.length = ms.length)
    (p : AsPost X.K X.mg H F fp σ e1 vs as H1 F1 fpe fpa) (h : WP X.K X.mg W σ H F fp (callF f as e1) (FinV X.K X.mg H F fp σ Q)) : spF X.K X.mg ms f vs H1 Q (WE W σ) := by
  have hlen : ∀ {vs : List V} {as : List (Slot × Option Nat)}, Bk σ vs as → vs.length = as.length := fun {vs as} b => by
    induction b with
    | nil => rfl
    | cons _ _ ih => simp [ih]
  have hl0 := (hlen p.bk).trans hl
  clear hl
  obtain ⟨as, e1, fpe, fpa, p, h⟩ := p.take h
  refine ⟨hl0, F1, as.map (·.1), fpa, p.ss.le, p.val, p.own, ?_⟩
  unfold callG at h
  cases hf : f (as.map (·.1)) with
  | bad => simp only [hf] at h; exact h.elim
  | ok r outs =>
    simp only [hf] at h ⊢
    intro v H2 F2 fpo fpv st le env val dis ow1 ow2
    obtain ⟨k1, k2, k3⟩ := st.held p.ss.env.there (fun a ha q => p.dis a q ha) p.ss.own
    obtain ⟨fp', g1, g2⟩ := giveBack_ok p.bk env (p.ss.env.keep st.fz k1) fun a ha q => k3 a q (List.mem_append_right _ ha)
    have h : FinV X.K X.mg H F fp σ Q r (giveBack as outs e1) := h
    refine h v H2 F2 fp' fpv ⟨?_, ⟨le, g1, fun a ha => (g2 a ha).elim (ow1 a) (k2 a)⟩, val, fun a ha q => ?_, ow2⟩
    · refine (p.st.trans st.frame).sub fun a ha => ?_
      rcases List.mem_append.mp ha with ha | ha
      · exact List.mem_append_left _ (List.mem_append_left _ ha)
      · exact (g2 a ha).elim (fun z => List.mem_append_left _ (List.mem_append_right _ z)) fun z => List.mem_append_right _ z
    · rcases g2 a q with z | z
      · exact dis a ha z
      · exact k3 a z (List.mem_append_left _ ha)
  | exn x outs =>
    simp only [hf] at h ⊢
    intro cls d H2 F2 fpo st le env ow1 ex
    obtain ⟨k1, k2, k3⟩ := st.held p.ss.env.there (fun a ha q => p.dis a q ha) p.ss.own
    obtain ⟨fp', g1, g2⟩ := giveBack_ok p.bk env (p.ss.env.keep st.fz k1) fun a ha q => k3 a q ha
    have h : Xc X.K X.mg W σ H F fp x (giveBack as outs e1) := h
    refine h cls d H2 F2 fp' ?_ ⟨le, g1, fun a ha => (g2 a ha).elim (ow1 a) (k2 a)⟩ ex
    refine (p.st.trans st.frame).sub fun a ha => ?_
    exact (g2 a ha).elim (fun z => List.mem_append_left _ z) fun z => List.mem_append_right _ z
theorem evArgs_length : ∀ {es : List IE} {ms : List Bool} {e e' : Ev} {as : List (Slot × Option Nat)}, evArgs ms es e = .ok as e' → as.length = es.length
  | [], ms, e, e', as, h => by
    have : R.ok ([] : List (Slot × Option Nat)) e = .ok as e' := by cases ms <;> exact h
    cases this; rfl
  | x :: r, ms, e, e', as, h => by
    have h : ((argOf (ms.headD false) x (sem x).1) e).bind (fun t e1 => (evArgs ms.tail r e1).bind fun ts e2 => .ok (t :: ts) e2) = .ok as e' := by cases ms <;> exact h
    cases h1 : (argOf (ms.headD false) x (sem x).1) e with
    | bad => rw [h1] at h; cases h
    | exn => rw [h1] at h; cases h
    | ok t e1 =>
      rw [h1] at h
      simp only [R.bind] at h
      cases h2 : evArgs ms.tail r e1 with
      | bad => rw [h2] at h; cases h
      | exn => rw [h2] at h; cases h
      | ok ts1 e2 =>
        rw [h2] at h
        simp only [R.bind] at h
        cases h
        simp [evArgs_length h2]
/-- a def of the module that keeps the promise f -/
structure HasFn (P : Program) (w : World) (K : PySem.W.Frag) (mg : Str → Option Value) (base : Heap) (k : Nat) (x : Str) (ms : List Bool) (f : Fn) : Prop where
  ex : ∃ (fa : Addr) (fd : FuncData) (ps : List Str), FnOk P w K mg base (L2.CX P w) k fa fd ps (spF K mg ms f) ∧ mg x = some (.ref fa) ∧ PySem.W.keepIn K (.ref fa) = true ∧ Binds K fd ps []
theorem pe_callF {x : Str} {ms : List Bool} {f : Fn} {xs : List IE} {k j : Nat} (F : HasFn X.prog X.w X.K X.mg X.base k x ms f) (hr : Room j X.A) (hk : k ≤ j) (tk : Takes X W) (hg : Gl X x) (hdb : (x == ("__debug__" : Str)) = false)
    (hl : xs.length = ms.length) (ha : PA X (e :: es) (tDa X.K X.mg W (evArgs ms xs))) (he : starEach (e :: es) X.env = (false, eval e X.env) :: starEach es X.env) (hpl : (backTo pos (starEach es X.env)).any (·.1) = false) :
    PE X (.Call (.Name x p) (e :: es) [] pos) (tDX X W (M.bind (evArgs ms xs) fun as => callF f as)) := by
  obtain ⟨fa, fd, ps, Fk, hm, hkp, hb⟩ := F.ex
  refine PE.imp (pe_callS Fk (hr.mono hk) hg hm hkp hb (fun σ => passAt tk σ) ha hdb he hpl) fun σ H Q q => ?_
  obtain ⟨F0, en, fp, ss, q⟩ := q
  have q : WP X.K X.mg W σ H F0 fp ((evArgs ms xs en).bind fun as e1 => callF f as e1) (FinV X.K X.mg H F0 fp σ Q) := q
  refine ⟨F0, en, fp, ss, ?_⟩
  cases hm : evArgs ms xs en with
  | bad => rw [hm] at q; exact q.elim
  | exn x e1 => rw [hm] at q; exact q
  | ok as e1 =>
    rw [hm] at q
    intro vs H1 F1 fpe fpa pp
    exact call_end ((evArgs_length hm).trans hl) pp q
theorem pe_callF0 {x : Str} {ms : List Bool} {f : Fn} {k j : Nat} (F : HasFn X.prog X.w X.K X.mg X.base k x ms f) (hr : Room j X.A) (hk : k ≤ j) (tk : Takes X W) (hg : Gl X x) (hdb : (x == ("__debug__" : Str)) = false)
    (hl : 0 = ms.length) : PE X (.Call (.Name x p) [] [] pos) (tDX X W (M.bind (evArgs ms []) fun as => callF f as)) := by
  obtain ⟨fa, fd, ps, Fk, hm, hkp, hb⟩ := F.ex
  have base : PE X (.Call (.Name x p) [] [] pos) (fun σ H Q => spF X.K X.mg ms f [] H Q (WE W σ)) := by
    refine ⟨fun pins s σ H Q I h => ?_⟩
    refine wpAny_Call_Name_kw (ld_glob I hg hm ?_ hdb)
    exact PySem.W.callWith_K0 I.kIn hkp (run_fnS (us := []) (E := WE W) Fk (hr.mono hk) hb (passAt tk σ) I .nil h)
  refine PE.imp base fun σ H Q q => ?_
  obtain ⟨F0, en, fp, ss, q⟩ := q
  have q : WP X.K X.mg W σ H F0 fp (callF f [] en) (FinV X.K X.mg H F0 fp σ Q) := by cases ms <;> exact q
  exact call_end (as := []) hl ⟨Stp.refl, ss, .nil, nm, nm, .nil⟩ q
end
end Rx
end

section
/-! Rx, part 6: subscripts, slices, fields, built-ins, comprehensions. -/
namespace Rx
open PySem PySem.Spec PyProof.Rows L2

section
variable {X : Cx} {W : WX} {pos p p2 : Pos} {a b c e : Expr} {es rest : List Expr} {xa xb xc : IE} {ma mb mc : M OT} {te : TE}
theorem uop_end {K : PySem.W.Frag} {mg : Str → Option Value} {σ : L2.St} {H F H0 F0 : Hp} {fp fp0 : List Addr} {en : Ev} {o : Option D} {Q : VK} (s : Stp H0 F0 fp0 H F fp) (ss : SS K mg H F σ en fp)
    (h : WP K mg W σ H0 F0 fp0 (M.bind (M.lift o) (fun d => M.pure (OT.fz d)) en) (FinV K mg H0 F0 fp0 σ Q)) : ∃ d, o = some d ∧ FinP K mg H F (.fz d) Q := by
  cases o with
  | none => exact h.elim
  | some k => exact ⟨k, rfl, finP_of ss (FinV.step s h)⟩
abbrev fz1 (g : D → Option D) : D → Option OT := fun a => (g a).map .fz
abbrev fz2 (g : D → D → Option D) : D → D → Option OT := fun a b => (g a b).map .fz
theorem pe_uopD {op : UnaryOp} {g : D → Option D} (ho : UnR X (unaryOp op) (R1D X.K X.mg (fz1 g))) (ha : PE X a (tOX X W xa ma)) : PE X (.UnaryOp op a pos) (tDX X W (uopM g xa ma)) := by
  refine PE.imp (pe_un ho ha) fun σ H Q h => ?_
  obtain ⟨F, en, fp, ss, h⟩ := h
  refine opd_use Stp.refl ss h fun v H1 F1 fp1 r e1 s1 _ ss1 o1 h1 => ?_
  obtain ⟨d, pd, h2⟩ := fin_use ss1 o1 h1
  obtain ⟨d2, hd, hq⟩ := uop_end s1 ss1 h2
  exact ⟨F1, d, _, ss1.le, pd, by unfold fz1; rw [hd]; rfl, hq⟩
theorem pe_ixD (hr : IxR X (R2D X.K X.mg (fz2 ixK))) (ha : PE X a (tOX X W xa ma)) (hb : PE X b (tOX X W xb mb)) (hs : PlainIx b) :
    PE X (.Subscript a b pos) (tDX X W (op2M xa xb ma mb fun x y _ => M.bind (M.lift (ixK x y)) fun d => M.pure (.fz d))) := by
  refine PE.imp (pe_ix hr ha hb hs) fun σ H Q h => ?_
  obtain ⟨F, en, fp, ss, h⟩ := h
  refine op2_use Stp.refl ss h fun v w H2 F2 fp2 e2 x y rb s2 ss2 px py _ h2 => ?_
  obtain ⟨d2, hd, hq⟩ := uop_end s2 ss2 h2
  exact ⟨F2, x, y, _, ss2.le, px, py, by unfold fz2; rw [hd]; rfl, hq⟩
/-- an optional part of a slice -/
def tOp_ (K : PySem.W.Frag) (mg : Str → Option Value) (W : WX) (m : M (Option Int)) : TO := fun σ H Q => ∃ F e fp, SS K mg H F σ e fp ∧ WP K mg W σ H F fp (m e) (fun o e1 => ∀ H' F' fpe, Stp H F fp H' F' fpe → SS K mg H' F' σ e1 fpe → Q o H')
theorem PO.imp {X : Cx} {o : Option Expr} {t t' : TO} (h : PO X o t) (f : ∀ σ H Q, t' σ H Q → t σ H Q) : PO X o t' := ⟨fun pins s σ H Q I q => h.run pins s σ H Q I (f σ H Q q)⟩
theorem po_noneD : PO X none (tOp_ X.K X.mg W (evOpt none)) := PO.imp po_none fun σ H Q h => by
  obtain ⟨F, en, fp, ss, h⟩ := h
  exact h H F fp Stp.refl ss
theorem po_someD {x : IE} (h : PE X e (tDX X W (sem x).1)) : PO X (some e) (tOp_ X.K X.mg W (evOpt (some x))) := PO.imp (po_some h) fun σ H Q h => by
  obtain ⟨F, en, fp, ss, h⟩ := h
  have h : WP X.K X.mg W σ H F fp (((sem x).1 en).bind fun t e1 => intK t.view e1) (fun o e1 => ∀ H' F' fpe, Stp H F fp H' F' fpe → SS X.K X.mg H' F' σ e1 fpe → Q o H') := h
  refine tD_useF Stp.refl ss h fun v t H1 F1 fp1 e1 s1 _ ss1 r1 h1 => ?_
  have h1 : WP X.K X.mg W σ H F fp (intK t.view e1) (fun o e1 => ∀ H' F' fpe, Stp H F fp H' F' fpe → SS X.K X.mg H' F' σ e1 fpe → Q o H') := h1
  generalize t.view = d at r1 h1
  cases d with
  | int i =>
    cases r1
    exact ⟨i, rfl, h1 H1 F1 fp1 s1 ss1⟩
  | _ => exact False.elim h1
def RsD (K : PySem.W.Frag) (mg : Str → Option Value) (g : D → Option Int → Option Int → Option OT) : V → Option Int → Option Int → Hp → VK → Prop := fun x lo hi H Q => ∃ F d t, Same F H ∧ PR K mg H F x d ∧ g d lo hi = some t ∧ FinP K mg H F t Q
theorem pe_slD {lo hi : Option Expr} {xl xh : Option IE} (hr : L2.SlR X (RsD X.K X.mg slD)) (ha : PE X a (tOX X W xa ma)) (hl : PO X lo (tOp_ X.K X.mg W (evOpt xl))) (hh : PO X hi (tOp_ X.K X.mg W (evOpt xh))) :
    PE X (.Subscript a (.Slice lo hi none p2) pos) (tDX X W (M.bind (opd xa ma) fun ra => M.bind (evOpt xl) fun l => M.bind (evOpt xh) fun h => M.bind (fin xa ra) fun x => M.lift (slD x l h))) := by
  refine PE.imp (pe_slice hr ha hl hh) fun σ H Q h => ?_
  obtain ⟨F, en, fp, ss, h⟩ := h
  refine opd_use Stp.refl ss h fun v H1 F1 fp1 r e1 s1 _ ss1 o1 h1 => ?_
  -- the parts
  have part : ∀ {β : Type} {x : Option IE} {f : Option Int → Ev → R β} {k : β → Ev → Prop} {H1 F1 : Hp} {fp1 : List Addr} {e1 : Ev} {cont : Option Int → Hp → Prop}, Stp H F fp H1 F1 fp1 → SS X.K X.mg H1 F1 σ e1 fp1 → WP X.K X.mg W σ H F fp ((evOpt x e1).bind f) k →
      (∀ o H2 F2 fp2 e2, Stp H F fp H2 F2 fp2 → Same F1 F2 → SS X.K X.mg H2 F2 σ e2 fp2 → WP X.K X.mg W σ H F fp (f o e2) k → cont o H2) → tOp_ X.K X.mg W (evOpt x) σ H1 cont := fun {β x f k H1 F1 fp1 e1 cont} s1 ss1 h c => by
    refine ⟨F1, e1, fp1, ss1, ?_⟩
    cases hm : evOpt x e1 with
    | bad => rw [hm] at h; exact h.elim
    | exn x e1 => rw [hm] at h; exact Xc.step (g := []) s1 h
    | ok o e2 => rw [hm] at h; exact fun H2 F2 fp2 st s2 => c o H2 F2 fp2 e2 (s1.trans st) st.fz s2 h
  refine part s1 ss1 h1 fun l H2 F2 fp2 e2 s2 sf2 ss2 h2 => part s2 ss2 h2 fun hh H3 F3 fp3 e3 s3 sf3 ss3 h3 => ?_
  obtain ⟨d, pd, h4⟩ := fin_use ss3 ((o1.mono sf2).mono sf3) h3
  obtain ⟨t, ht, hq⟩ := lift_end s3 ss3 h4
  exact ⟨F3, d, t, ss3.le, pd, ht, hq⟩

/-! ### built-ins by name -/
def tOps (K : PySem.W.Frag) (mg : Str → Option Value) (W : WX) (xs : List IE) : TA := fun σ H Q => ∃ F e fp, SS K mg H F σ e fp ∧ WP K mg W σ H F fp (evOps xs e) (fun rs e1 => ∀ vs H' F' fpe, Stp H F fp H' F' fpe → SS K mg H' F' σ e1 fpe → (∀ H2 F2 fp2 e2 , Same F' F2 → SS K mg H2 F2 σ e2 fp2 → ∀ ds, fins xs rs e2 = .ok ds e2 → PRs K mg H2 F2 vs ds) → Q vs H')
theorem fin_state {x : IE} {r : Option D} {en : Ev} : fin x r en = .bad ∨ ∃ d, fin x r en = .ok d en := by
  unfold fin
  cases x.isVar with
  | some j =>
    simp only [M.bind_app, M.get]
    cases en.at j with
    | none => exact .inl rfl
    | some t =>
      simp only [R.bind]
      cases t.flat with
      | none => exact .inl rfl
      | some d => exact .inr ⟨d, rfl⟩
  | none =>
    cases r with
    | none => exact .inl rfl
    | some d => exact .inr ⟨d, rfl⟩
theorem fins_state : ∀ {xs : List IE} {rs : List (Option D)} {en : Ev}, fins xs rs en = .bad ∨ ∃ ds, fins xs rs en = .ok ds en
  | [], rs, en => .inr ⟨[], by cases rs <;> rfl⟩
  | x :: xs, [], en => .inr ⟨[], rfl⟩
  | x :: xs, r :: rs, en => by
    show ((fin x r en).bind fun d e1 => (fins xs rs e1).bind fun ds e2 => .ok (d :: ds) e2) = _ ∨ ∃ ds, ((fin x r en).bind fun d e1 => (fins xs rs e1).bind fun ds e2 => .ok (d :: ds) e2) = _
    rcases fin_state (x := x) (r := r) (en := en) with h | ⟨d, h⟩
    · rw [h]; exact .inl rfl
    · rw [h]
      simp only [R.bind]
      rcases fins_state (xs := xs) (rs := rs) (en := en) with h2 | ⟨ds, h2⟩
      · rw [h2]; exact .inl rfl
      · rw [h2]; exact .inr ⟨_, rfl⟩
theorem pa_nilO : PA X [] (tOps X.K X.mg W []) := PA.imp pa_nil fun σ H Q q => by
  obtain ⟨F, en, fp, ss, q⟩ := q
  refine q [] H F fp Stp.refl ss fun H2 F2 fp2 e2 _ _ ds h => ?_
  have : R.ok ([] : List D) e2 = .ok ds e2 := h
  cases this; exact .nil
theorem pa_consO {x : IE} {r : List IE} (ha : PE X a (tOX X W x (sem x).1)) (hr : PA X es (tOps X.K X.mg W r)) (hs : starEach (a :: es) X.env = (false, eval a X.env) :: starEach es X.env) :
    PA X (a :: es) (tOps X.K X.mg W (x :: r)) := by
  refine PA.imp (pa_cons ha hr hs) fun σ H Q q => ?_
  obtain ⟨F, en, fp, ss, q⟩ := q
  refine opd_use (f := fun t e1 => (evOps r e1).bind fun ts e2 => .ok (t :: ts) e2) Stp.refl ss q fun v H1 F1 fp1 ro e1 s1 _ ss1 o1 h1 => ?_
  refine ⟨F1, e1, fp1, ss1, ?_⟩
  cases hm : evOps r e1 with
  | bad => rw [hm] at h1; exact h1.elim
  | exn x e2 => rw [hm] at h1; exact Xc.step (g := []) s1 h1
  | ok rs e2 =>
    rw [hm] at h1
    intro vs H2 F2 fpe st ss2 hv
    refine h1 (v :: vs) H2 F2 fpe (s1.trans st) ss2 fun H3 F3 fp3 e3 sf3 ss3 ds hf => ?_
    have hf : ((fin x ro e3).bind fun d e4 => (fins r rs e4).bind fun ds e5 => .ok (d :: ds) e5) = .ok ds e3 := hf
    have o3 : OpH X.K X.mg F3 σ x ro v := (o1.mono st.fz).mono sf3
    rcases fin_state (x := x) (r := ro) (en := e3) with h | ⟨d, h⟩
    · rw [h] at hf; cases hf
    · obtain ⟨d', pd, h5⟩ := fin_use (W := W) (H0 := H) (F0 := F) (fp0 := fp) (f := fun d e => R.ok d e) (k := fun d' _ => d' = d) ss3 o3 (by rw [h]; exact rfl)
      have e5 : d' = d := h5
      subst e5
      rw [h] at hf
      simp only [R.bind] at hf
      rcases fins_state (xs := r) (rs := rs) (en := e3) with h6 | ⟨ds', h6⟩
      · rw [h6] at hf; cases hf
      · rw [h6] at hf
        simp only [R.bind] at hf
        cases hf
        exact .cons pd (hv H3 F3 fp3 e3 sf3 ss3 ds' h6)
/-- a built-in under its name that does g -/
def HasBi (X : Cx) (x : Str) (g : List D → Option OT) : Prop :=
  X.mg x = none ∧ x ≠ "__name__" ∧ ((∃ id, bootBuiltins x = some (.builtin id) ∧ CallR X (.builtin id) (RcD X.K X.mg g)) ∨ ∃ T, bootBuiltins x = some (.type T) ∧ CallR X (.type T) (RcD X.K X.mg g))
theorem pe_biD {x : Str} {g : List D → Option OT} {xs : List IE} (hb : HasBi X x g) (hg : Gl X x) (hdb : (x == ("__debug__" : Str)) = false) (ha : PA X (e :: es) (tOps X.K X.mg W xs))
    (he : starEach (e :: es) X.env = (false, eval e X.env) :: starEach es X.env) (hpl : (backTo pos (starEach es X.env)).any (·.1) = false) :
    PE X (.Call (.Name x p) (e :: es) [] pos) (tDX X W (M.bind (evOps xs) fun rs => M.bind (fins xs rs) fun ds => M.lift (g ds))) := by
  obtain ⟨h0, hn, hc⟩ := hb
  have base : PE X (.Call (.Name x p) (e :: es) [] pos) (tCB (RcD X.K X.mg g) (tOps X.K X.mg W xs)) := by
    rcases hc with ⟨id, h1, h2⟩ | ⟨T, h1, h2⟩
    · exact pe_callB h2 hg h0 h1 ha hn hdb he hpl
    · exact pe_callTy h2 hg h0 h1 ha hn hdb he hpl
  refine PE.imp base fun σ H Q q => ?_
  obtain ⟨F, en, fp, ss, q⟩ := q
  have q : WP X.K X.mg W σ H F fp ((evOps xs en).bind fun rs e1 => (fins xs rs e1).bind fun ds e2 => M.lift (g ds) e2) (FinV X.K X.mg H F fp σ Q) := q
  refine ⟨F, en, fp, ss, ?_⟩
  cases hm : evOps xs en with
  | bad => rw [hm] at q; exact q.elim
  | exn x e1 => rw [hm] at q; exact q
  | ok rs e1 =>
    rw [hm] at q
    intro vs H1 F1 fpe st ss1 hv
    have q : WP X.K X.mg W σ H F fp ((fins xs rs e1).bind fun ds e2 => M.lift (g ds) e2) (FinV X.K X.mg H F fp σ Q) := q
    rcases fins_state (xs := xs) (rs := rs) (en := e1) with h | ⟨ds, h⟩
    · rw [h] at q; exact q.elim
    · rw [h] at q
      obtain ⟨t, ht, hq⟩ := lift_end st ss1 q
      exact ⟨F1, ds, t, ss1.le, hv H1 F1 fpe e1 (Same.refl _) ss1 ds h, ht, hq⟩
end
end Rx
end

section
/-! Rx, part 7: targets, what a for walks, comprehensions. -/
namespace Rx
open PySem PySem.Spec PyProof.Rows L2

/-! ### targets -/
def gSq (K : PySem.W.Frag) (n : Nat) (t : TGs) : TG := fun v σ H Q => gTup K n t v σ H Q ∨ gLst K n t v σ H Q
theorem pg_sq {X : Cx} {es : List Expr} {k : Nat} {t : TGs} {n : Nat} {pos : Pos} (hc : X.calm = true) (h : PGs X es t) (hn : (assignEach es X.env).length = n) (hst : (assignEach es X.env).findIdx? (·.1) = none) : PG X (.Tuple es k pos) (gSq X.K n t) :=
  ⟨fun pins s σ H v u Q I r hw => hw.elim ((pg_tup hc h hn hst).run pins s σ H v u Q I r) ((pg_lst hc h hn hst).run pins s σ H v u Q I r)⟩
mutual
def gOf (K : PySem.W.Frag) : TGt → TG
  | .nm j => gName j
  | .tp ts => gSq K ts.length (gsOf K ts)
def gsOf (K : PySem.W.Frag) : List TGt → TGs
  | [] => gNil
  | t :: ts => gCons (gOf K t) (gsOf K ts)
end
/-! the slots that a target stores -/
mutual
def TGt.has : TGt → List Nat
  | .nm j => [j]
  | .tp ts => TGt.hass ts
def TGt.hass : List TGt → List Nat
  | [] => []
  | t :: ts => TGt.has t ++ TGt.hass ts
end
/-- slots that stay as they are -/
def Pr (P : Nat → Bool) (σ σ' : L2.St) : Prop := ∀ i, P i = true → σ'[i]? = σ[i]?
theorem Pr.refl {P : Nat → Bool} {σ : L2.St} : Pr P σ σ := fun _ _ => rfl
theorem Pr.trans {P : Nat → Bool} {σ σ1 σ2 : L2.St} (a : Pr P σ σ1) (b : Pr P σ1 σ2) : Pr P σ σ2 := fun i h => (b i h).trans (a i h)
theorem Pr.set {P : Nat → Bool} {σ : L2.St} {j : Nat} {v : Option V} (h : P j = false) : Pr P σ (σ.set j v) := fun i hi => by
  have : j ≠ i := fun z => by rw [z, hi] at h; cases h
  rw [List.getElem?_set_ne this]
section
variable {K : PySem.W.Frag} {mg : Str → Option Value} {W : WX} {H F H' F' H1 F1 H0 F0 : Hp} {fp fp1 fp0 fpe fpv : List Addr}
theorem SS.set {σ : L2.St} {e : Ev} {j : Nat} {v : V} {d : D} (ss : SS K mg H F σ e fp) (r : DR K mg F v d) : ∃ fp', SS K mg H F (σ.set j (some v)) (e.set j (some (.fz d))) fp' ∧ (∀ a ∈ fp', a ∈ fp) := by
  obtain ⟨fp', h1, h2⟩ := EvR.set (g := []) j ss.env (.fz r) nm
  have h3 : ∀ a ∈ fp', a ∈ fp := fun a ha => (h2 a ha).elim (fun z => nomatch z) id
  exact ⟨fp', ⟨ss.le, h1, fun a ha => ss.own a (h3 a ha)⟩, h3⟩
theorem tup_of {v : V} {ds : List D} (h : DR K mg F v (.tup ds)) : ∃ a vs, v = .ref a ∧ SqT K F a vs ∧ DRs K mg F vs ds ∧ vs.length ≤ sizeLine := by
  cases h with
  | tup h hz r => exact ⟨_, _, rfl, h, r, hz⟩
mutual
theorem bindT_ok {P : Nat → Bool} : ∀ (tg : TGt) {v : V} {d : D} {e e1 : Ev} {σ : L2.St} {fp : List Addr} {cont : L2.St → Hp → Prop}, (tg.has.all fun j => !P j) = true → DR K mg F v d → bindT tg d e = some e1 → SS K mg H F σ e fp →
    (∀ σ' fp', SS K mg H F σ' e1 fp' → (∀ a ∈ fp', a ∈ fp) → Pr P σ σ' → σ'.length = σ.length → cont σ' H) → gOf K tg v σ H cont
  | .nm j, v, d, e, e1, σ, fp, cont, hp, r, hb, ss, c => by
    cases hb
    obtain ⟨fp', h1, h2⟩ := ss.set (j := j) r
    exact c _ fp' h1 h2 (Pr.set (by simpa [TGt.has] using hp)) (by simp)
  | .tp ts, v, d, e, e1, σ, fp, cont, hp, r, hb, ss, c => by
    cases d with
    | tup ds =>
      obtain ⟨a, vs, rfl, h1, h2, h3⟩ := tup_of r
      have hb : bindTs ts ds e = some e1 := hb
      have hl : vs.length = ts.length := by
        rw [h2.length]
        exact (bindTs_length ts ds e e1 hb).symm
      exact .inl ⟨a, vs, rfl, Same.seqT ss.le h1, hl, bindTs_ok ts hp h2 hb ss c⟩
    | lst ds =>
      cases r with
      | lst h1 hz h2 =>
        have hb : bindTs ts ds e = some e1 := hb
        refine .inr ⟨_, _, rfl, SqL.of (ss.le _ _ h1), ?_, bindTs_ok ts hp h2 hb ss c⟩
        rw [h2.length]
        exact (bindTs_length ts ds e e1 hb).symm
    | _ => cases hb
theorem bindTs_ok {P : Nat → Bool} : ∀ (ts : List TGt) {vs : List V} {ds : List D} {e e1 : Ev} {σ : L2.St} {fp : List Addr} {cont : L2.St → Hp → Prop}, ((TGt.hass ts).all fun j => !P j) = true → DRs K mg F vs ds → bindTs ts ds e = some e1 → SS K mg H F σ e fp →
    (∀ σ' fp', SS K mg H F σ' e1 fp' → (∀ a ∈ fp', a ∈ fp) → Pr P σ σ' → σ'.length = σ.length → cont σ' H) → gsOf K ts vs σ H cont
  | [], vs, ds, e, e1, σ, fp, cont, hp, r, hb, ss, c => by
    cases r with
    | nil =>
      cases hb
      exact ⟨rfl, c σ fp ss (fun _ q => q) Pr.refl rfl⟩
    | cons => cases hb
  | t :: ts, vs, ds, e, e1, σ, fp, cont, hp, r, hb, ss, c => by
    cases r with
    | nil => cases hb
    | cons r rs =>
      rename_i v d vs ds
      have hb : (bindT t d e).bind (fun e' => bindTs ts ds e') = some e1 := hb
      cases h0 : bindT t d e with
      | none => rw [h0] at hb; cases hb
      | some e2 =>
        rw [h0] at hb
        have hb : bindTs ts ds e2 = some e1 := hb
        have hp2 : (t.has.all fun j => !P j) = true ∧ ((TGt.hass ts).all fun j => !P j) = true := by
          have : ((t.has ++ TGt.hass ts).all fun j => !P j) = true := hp
          rw [List.all_append, Bool.and_eq_true] at this
          exact this
        refine ⟨v, vs, rfl, bindT_ok t hp2.1 r h0 ss fun σ2 fp2 ss2 s2 p2 l2 => ?_⟩
        exact bindTs_ok ts hp2.2 rs hb ss2 fun σ3 fp3 ss3 s3 p3 l3 => c σ3 fp3 ss3 (fun a ha => s2 a (s3 a ha)) (p2.trans p3) (l3.trans l2)
theorem bindTs_length : ∀ (ts : List TGt) (ds : List D) (e e1 : Ev), bindTs ts ds e = some e1 → ts.length = ds.length
  | [], [], _, _, _ => rfl
  | [], _ :: _, _, _, h => by cases h
  | _ :: _, [], _, _, h => by cases h
  | t :: ts, d :: ds, e, e1, h => by
    have h : (bindT t d e).bind (fun e' => bindTs ts ds e') = some e1 := h
    cases h0 : bindT t d e with
    | none => rw [h0] at h; cases h
    | some e2 =>
      rw [h0] at h
      simp [bindTs_length ts ds e2 e1 h]
end
/-! ### what is walked -/
/-- it goes through the data xs, while F stands -/
structure DWalk (K : PySem.W.Frag) (mg : Str → Option Value) (J : It) (F : Hp) (xs : List D) : Prop where
  few : xs.length ≤ sizeLine
  goes : ∀ i H, Same F H → i < xs.length → J.go i H
  stops : ∀ H, Same F H → J.stop xs.length H
  yields : ∀ i H x H' F2, Same F F2 → Same F2 H → i < xs.length → J.yld i H x H' → ∃ d F3, xs[i]? = some d ∧ Stp H F2 [] H' F3 [] ∧ Same F3 H' ∧ DR K mg F3 x d
theorem DWalk.mono {J : It} {xs : List D} (w : DWalk K mg J F xs) (s : Same F F') : DWalk K mg J F' xs :=
  ⟨w.few, fun i H h => w.goes i H (s.trans h), fun H h => w.stops H (s.trans h), fun i H x H' F2 h => w.yields i H x H' F2 (s.trans h)⟩
theorem DRs.get : ∀ {vs : List V} {ds : List D} {i : Nat} {v : V}, DRs K mg F vs ds → vs[i]? = some v → ∃ d, ds[i]? = some d ∧ DR K mg F v d
  | _, _, _, _, .nil, h => by simp at h
  | _, _, 0, _, .cons r _, h => by simp at h; subst h; exact ⟨_, rfl, r⟩
  | _, _, i + 1, _, .cons _ r, h => by
    obtain ⟨d, h1, h2⟩ := DRs.get (i := i) r (by simpa using h)
    exact ⟨d, by simpa using h1, h2⟩
theorem DRs.get' : ∀ {vs : List V} {ds : List D} {i : Nat} {d : D}, DRs K mg F vs ds → ds[i]? = some d → ∃ v, vs[i]? = some v ∧ DR K mg F v d
  | _, _, _, _, .nil, h => by simp at h
  | _, _, 0, _, .cons r _, h => by simp at h; subst h; exact ⟨_, rfl, r⟩
  | _, _, i + 1, _, .cons _ r, h => by
    obtain ⟨d, h1, h2⟩ := DRs.get' (i := i) r (by simpa using h)
    exact ⟨d, by simpa using h1, h2⟩
theorem dw_list {a : Addr} {vs : List V} {ds : List D} (hz : vs.length ≤ sizeLine) (h : SqL K F a vs) (r : DRs K mg F vs ds) : DWalk K mg (Itl K a) F ds := by
  have hl := r.length
  refine ⟨by omega, fun i H s hi => walk_list.goes i H (by omega) (s.seq h), fun H s => by rw [← hl]; exact walk_list.stops H (s.seq h), fun i H x H' F2 s1 s2 hi y => ?_⟩
  obtain ⟨e, hx⟩ := walk_list.yields i H x H' (by omega) (s2.seq (s1.seq h)) y
  subst e
  obtain ⟨d, h1, h2⟩ := r.get hx
  exact ⟨d, F2, h1, Stp.refl, s2, h2.mono s1⟩
theorem dw_tup {a : Addr} {vs : List V} {ds : List D} (hz : vs.length ≤ sizeLine) (h : SqT K F a vs) (r : DRs K mg F vs ds) : DWalk K mg (Itt K a) F ds := by
  have hl := r.length
  refine ⟨by omega, fun i H s hi => walk_tup.goes i H (by omega) (Same.seqT s h), fun H s => by rw [← hl]; exact walk_tup.stops H (Same.seqT s h), fun i H x H' F2 s1 s2 hi y => ?_⟩
  obtain ⟨e, hx⟩ := walk_tup.yields i H x H' (by omega) (Same.seqT s2 (Same.seqT s1 h)) y
  subst e
  obtain ⟨d, h1, h2⟩ := r.get hx
  exact ⟨d, F2, h1, Stp.refl, s2, h2.mono s1⟩
theorem dw_str {s : List Nat} (hl : s.length ≤ sizeLine) (hc : ∀ c ∈ s, c < 0x110000) : DWalk K mg (Its (strOf s)) F (s.map fun c => .str [c]) := by
  have hn : (strOf s).cps.size = s.length := by simp [strOf]
  refine ⟨by simpa using hl, fun i H _ hi => walk_str.goes i H (by rw [hn]; simpa using hi) trivial, fun H _ => by rw [List.length_map, ← hn]; exact walk_str.stops H trivial, fun i H x H' F2 s1 s2 hi y => ?_⟩
  have hi : i < s.length := by simpa using hi
  obtain ⟨e, c, hc1, hx⟩ := walk_str.yields i H x H' (by rw [hn]; exact hi) trivial y
  subst e
  subst hx
  have hc2 : s[i]? = some c := by simpa [strOf] using hc1
  refine ⟨.str [c], F2, by rw [List.getElem?_map, hc2]; rfl, Stp.refl, s2, ?_⟩
  have : (⟨#[c]⟩ : Str) = strOf [c] := rfl
  rw [this]
  exact .str (by simp [sizeLine_eq]) fun z hz => by
    have : z = c := by simpa using hz
    rw [this]; exact hc c (List.mem_of_getElem? hc2)
theorem dw_rng {lo : Int} {n : Nat} (hz : n ≤ sizeLine) : DWalk K mg (Itr lo n) F (rngD lo n) := by
  have hn : (rngD lo n).length = n := by simp [rngD]
  refine ⟨by omega, fun i H _ hi => walk_range.goes i H (by omega) trivial, fun H _ => by rw [hn]; exact walk_range.stops H trivial, fun i H x H' F2 s1 s2 hi y => ?_⟩
  obtain ⟨e, hx⟩ := walk_range.yields i H x H' (by omega) trivial y
  subst e
  subst hx
  refine ⟨.int (lo + i), F2, ?_, Stp.refl, s2, .int _⟩
  have : i < n := by omega
  simp [rngD, this]
/-- a new pair -/
theorem pair_new {H F2 : Hp} {T : Addr} {x y : V} {a b : D} (s : Same F2 H) (n : H T = none) (rx : DR K mg F2 x a) (ry : DR K mg F2 y b) :
    Stp H F2 [] (upd H T (.tup [x, y])) (upd F2 T (.tup [x, y])) [] ∧ Same (upd F2 T (.tup [x, y])) (upd H T (.tup [x, y])) ∧ DR K mg (upd F2 T (.tup [x, y])) (.ref T) (.tup [a, b]) := by
  have st : Stp H F2 [] (upd H T (.tup [x, y])) (upd F2 T (.tup [x, y])) [] := Stp.newF n s
  exact ⟨st, same_upd2 s, .tup (SqT.of upd_same) (by show 2 ≤ sizeLine; decide) (.cons (rx.mono st.fz) (.cons (ry.mono st.fz) .nil))⟩
theorem enumD_get : ∀ (xs : List D) (n i : Nat) {x : D}, xs[i]? = some x → (enumD n xs)[i]? = some (.tup [intD (n + i), x])
  | [], _, _, _, h => by simp at h
  | y :: ys, n, 0, x, h => by simp at h; subst h; rfl
  | y :: ys, n, i + 1, x, h => by
    have := enumD_get ys (n + 1) i (by simpa using h)
    show (enumD (n + 1) ys)[i]? = _
    rw [this, show n + 1 + i = n + (i + 1) by omega]
theorem enumD_length : ∀ (xs : List D) (n : Nat), (enumD n xs).length = xs.length
  | [], _ => rfl
  | y :: ys, n => by simp [enumD, enumD_length ys (n + 1)]
theorem dw_enum {a : Addr} {vs : List V} {ds : List D} (hz : vs.length ≤ sizeLine) (h : SqL K F a vs) (r : DRs K mg F vs ds) : DWalk K mg (Ite K a) F (enumD 0 ds) := by
  have hl := r.length
  have hn := enumD_length ds 0
  refine ⟨by omega, fun i H s hi => walk_enum.goes i H (by omega) (s.seq h), fun H s => by rw [hn, ← hl]; exact walk_enum.stops H (s.seq h), fun i H x H' F2 s1 s2 hi y => ?_⟩
  obtain ⟨T, x1, y1, rfl, nT, rfl, f1, f2⟩ := walk_enum.yields i H x H' (by omega) (s2.seq (s1.seq h)) y
  have e1 : x1 = .int (i : Nat) := (Option.some.inj f1).symm
  subst e1
  obtain ⟨d, h1, h2⟩ := r.get f2
  obtain ⟨p1, p2, p3⟩ := pair_new (a := .int (i : Nat)) (b := d) s2 nT (.int _) (h2.mono s1)
  refine ⟨.tup [intD i, d], _, ?_, p1, p2, p3⟩
  have := enumD_get ds 0 i h1
  rw [this, show 0 + i = i by omega]
theorem zipD_get : ∀ (xs ys : List D) (i : Nat) {x y : D}, xs[i]? = some x → ys[i]? = some y → (zipD xs ys)[i]? = some (.tup [x, y])
  | [], _, _, _, _, h, _ => by simp at h
  | _ :: _, [], _, _, _, _, h => by simp at h
  | a :: as, b :: bs, 0, x, y, h, h2 => by simp at h h2; subst h h2; rfl
  | a :: as, b :: bs, i + 1, x, y, h, h2 => by
    show (zipD as bs)[i]? = _
    exact zipD_get as bs i (by simpa using h) (by simpa using h2)
theorem zipD_length : ∀ (xs ys : List D), (zipD xs ys).length = min xs.length ys.length
  | [], _ => by simp [zipD]
  | _ :: _, [] => by simp [zipD]
  | a :: as, b :: bs => by simp [zipD, zipD_length as bs, Nat.add_min_add_right]
theorem dw_zip {a b : Addr} {vs ws : List V} {ds es : List D} (hz : vs.length ≤ sizeLine) (h : SqL K F a vs) (r : DRs K mg F vs ds) (h2 : SqL K F b ws) (r2 : DRs K mg F ws es) : DWalk K mg (Itz K a b) F (zipD ds es) := by
  have hl := r.length
  have hl2 := r2.length
  have hn := zipD_length ds es
  have wz := walk_zip (K := K) (a := a) (b := b) (xs := vs) (ys := ws) (n := (zipD ds es).length) (by omega)
  refine ⟨by omega, fun i H s hi => wz.goes i H hi ⟨s.seq h, s.seq h2⟩, fun H s => wz.stops H ⟨s.seq h, s.seq h2⟩, fun i H x H' F2 s1 s2 hi y => ?_⟩
  obtain ⟨T, x1, y1, rfl, nT, rfl, f1, f2⟩ := wz.yields i H x H' hi ⟨s2.seq (s1.seq h), s2.seq (s1.seq h2)⟩ y
  obtain ⟨d, k1, k2⟩ := r.get f1
  obtain ⟨d', k3, k4⟩ := r2.get f2
  obtain ⟨p1, p2, p3⟩ := pair_new s2 nT (k2.mono s1) (k4.mono s1)
  exact ⟨_, _, zipD_get ds es i k1 k3, p1, p2, p3⟩
end

section
variable {X : Cx} {W : WX} {pos p p2 tpos : Pos} {a b c e tg : Expr} {es rest elts : List Expr} {kk : Nat}
/-- what an iterable asks -/
def tI (K : PySem.W.Frag) (mg : Str → Option Value) (W : WX) (m : M (List D)) : TI := fun σ H R => ∃ F e fp, SS K mg H F σ e fp ∧ WP K mg W σ H F fp (m e) (fun xs e1 => ∀ J H' F' fpe, Stp H F fp H' F' fpe → SS K mg H' F' σ e1 fpe → DWalk K mg J F' xs → R J H')
theorem PI.imp {X : Cx} {tg e : Expr} {t t' : TI} (h : PI X tg e t) (f : ∀ σ H Q, t' σ H Q → t σ H Q) : PI X tg e t' := ⟨fun pins s σ H Q I q => h.run pins s σ H Q I (f σ H Q q)⟩
noncomputable def itM (k : ITK) (its : List IE) : M (List D) := M.bind (evs its) fun ts => M.lift (itemsOf k (OT.views ts))
/-- a list, a tuple, a text, whichever it is -/
theorem pi_val {te : TE} (he : PE X e te) : PI X tg e (fun σ H R => te σ H fun x H1 => (∃ a, x = .ref a ∧ (∃ xs, SqL X.K H1 a xs) ∧ R (Itl X.K a) H1) ∨ (∃ a, x = .ref a ∧ (∃ xs, SqT X.K H1 a xs) ∧ R (Itt X.K a) H1) ∨ ∃ z, x = .str z ∧ R (Its z) H1) := by
  refine ⟨fun pins s σ H R I h => ?_⟩
  refine thn (he.run pins s σ H _ I h) fun v s1 ⟨x, H1, I1, r1, q1⟩ => ?_
  have one : ∀ (y : V) (w : Value), RelV y w → ∀ {s1 : Shared} {H1 : Hp} {Q : V → Hp → Prop} {v : Value}, v = w → Inv X pins σ H1 s1 → EP X pins σ (fun v H => v = y ∧ H = H1) v s1 := fun y w r {s1 H1 Q v} e I => ⟨y, H1, I, by rw [e]; exact r, rfl, rfl⟩
  rcases q1 with ⟨a, rfl, ⟨xs, hq⟩, q⟩ | ⟨a, rfl, ⟨xs, hq⟩, q⟩ | ⟨z, rfl, q⟩
  · cases r1
    obtain ⟨its, rv, pl, hz⟩ := I1.list hq
    exact wpAny_pyIter_list pl.isList (pi_one (tk := s1.toks) I1 _ (turn_list a _) ⟨_, Heap.get?_push_size _ rfl, rfl, rfl⟩ q)
  · cases r1
    obtain ⟨its, rv, pl, hz⟩ := I1.tuple hq
    exact wpAny_pyIter_tuple (show s1.heap.IsTuple a its.toArray from pl) (pi_one (tk := s1.toks) I1 _ (turn_tuple a _) ⟨_, Heap.get?_push_size _ rfl, rfl, rfl⟩ q)
  · obtain ⟨t, rfl⟩ := r1
    cases ha : z.cps.all (· < 128)
    · exact wpAny_pyIter_wide ha (pi_one (tk := s1.toks) I1 _ (turn_str _ z t "str_iterator" (.inr rfl)) ⟨_, Heap.get?_push_size _ rfl, rfl, rfl⟩ q)
    · exact wpAny_pyIter_ascii ha (pi_one (tk := s1.toks) I1 _ (turn_str _ z t "str_ascii_iterator" (.inl rfl)) ⟨_, Heap.get?_push_size _ rfl, rfl, rfl⟩ q)
theorem pi_valD {x : IE} (he : PE X e (tDX X W (sem x).1)) : PI X tg e (tI X.K X.mg W (itM .val [x])) := by
  refine PI.imp (pi_val he) fun σ H R h => ?_
  obtain ⟨F, en, fp, ss, h⟩ := h
  have h : WP X.K X.mg W σ H F fp (((sem x).1 en).bind fun t e1 => M.lift (itemsOf .val [t.view]) e1) (fun xs e1 => ∀ J H' F' fpe, Stp H F fp H' F' fpe → SS X.K X.mg H' F' σ e1 fpe → DWalk X.K X.mg J F' xs → R J H') := by
    have : itM .val [x] en = ((sem x).1 en).bind fun t e1 => M.lift (itemsOf .val [t.view]) e1 := by
      show (((sem x).1 en).bind fun t e1 => Rx.R.ok [t] e1).bind _ = _
      cases (sem x).1 en <;> rfl
    rw [this] at h
    exact h
  refine tD_useF Stp.refl ss h fun v t H1 F1 fp1 e1 s1 _ ss1 r1 h1 => ?_
  have h1 : WP X.K X.mg W σ H F fp (M.lift (itemsOf .val [t.view]) e1) (fun xs e1 => ∀ J H' F' fpe, Stp H F fp H' F' fpe → SS X.K X.mg H' F' σ e1 fpe → DWalk X.K X.mg J F' xs → R J H') := h1
  generalize t.view = d at r1 h1
  cases r1 with
  | tup hs hz r => exact .inr (.inl ⟨_, rfl, ⟨_, Same.seqT ss1.le hs⟩, h1 _ H1 F1 fp1 s1 ss1 (dw_tup hz hs r)⟩)
  | lst hs hz r => exact .inl ⟨_, rfl, ⟨_, ss1.le.seq (SqL.of hs)⟩, h1 _ H1 F1 fp1 s1 ss1 (dw_list hz (SqL.of hs) r)⟩
  | lk hs hz r => exact .inl ⟨_, rfl, ⟨_, ss1.le.seq hs⟩, h1 _ H1 F1 fp1 s1 ss1 (dw_list hz hs r)⟩
  | str hl hc => exact .inr (.inr ⟨_, rfl, h1 _ H1 F1 fp1 s1 ss1 (dw_str hl hc)⟩)
  | _ => exact False.elim h1
/-- frozen arguments, then what is walked -/
theorem it_use {k : ITK} {its : List IE} {σ : L2.St} {H : Hp} {R : It → Hp → Prop} {cont : List V → Hp → Prop} (h : tI X.K X.mg W (itM k its) σ H R)
    (c : ∀ vs ds H1 F1 fp1 e1, SS X.K X.mg H1 F1 σ e1 fp1 → DRs X.K X.mg F1 vs ds → (∀ xs, itemsOf k ds = some xs → ∀ J, DWalk X.K X.mg J F1 xs → R J H1) → (∃ xs, itemsOf k ds = some xs) → cont vs H1) : tDs X.K X.mg W (evs its) σ H cont := by
  obtain ⟨F, en, fp, ss, h⟩ := h
  refine tDs_use (f := fun ts e1 => M.lift (itemsOf k (OT.views ts)) e1) Stp.refl ss h fun vs ts H1 F1 fpe fpv e1 p h1 => ?_
  obtain ⟨q1, q2, q3⟩ := p.frz
  refine c vs (OT.views ts) H1 _ fpe e1 q2 q3 (fun xs hx J w => ?_) ?_
  · rw [hx] at h1
    exact h1 J H1 _ fpe q1 q2 w
  · cases hx : itemsOf k (OT.views ts) with
    | none => rw [hx] at h1; exact h1.elim
    | some xs => exact ⟨xs, rfl⟩
theorem pi_rng1D {x : IE} (hg : Gl X "range") (hm : X.mg "range" = none) (ha : PA X [a] (tDs X.K X.mg W (evs [x]))) (hs : starEach [a] X.env = [(false, eval a X.env)]) :
    PI X tg (.Call (.Name "range" p) [a] [] pos) (tI X.K X.mg W (itM .rng1 [x])) := by
  refine PI.imp (pi_range1 hg hm ha hs) fun σ H R h => it_use h fun vs ds H1 F1 fp1 e1 ss1 r1 k1 ⟨xs, hx⟩ => ?_
  cases r1 with
  | nil => cases hx
  | cons r rs =>
    cases rs with
    | nil =>
      cases r with
      | int n =>
        have hx : rngO 0 n = some xs := hx
        have k2 := k1 xs hx
        unfold rngO at hx
        split at hx
        · rename_i hn
          cases hx
          refine ⟨n, rfl, by omega, by omega, k2 _ ?_⟩
          have : n - 0 = n := by omega
          rw [this]
          exact dw_rng (by have := sizeLine_eq; omega)
        · cases hx
      | _ => cases hx
    | cons => cases r <;> cases hx
theorem pi_rng2D {x y : IE} (hg : Gl X "range") (hm : X.mg "range" = none) (ha : PA X [a, b] (tDs X.K X.mg W (evs [x, y]))) (hs : starEach [a, b] X.env = [(false, eval a X.env), (false, eval b X.env)]) (hs2 : starEach [b] X.env = [(false, eval b X.env)]) :
    PI X tg (.Call (.Name "range" p) [a, b] [] pos) (tI X.K X.mg W (itM .rng2 [x, y])) := by
  refine PI.imp (pi_range2 hg hm ha hs hs2) fun σ H R h => it_use h fun vs ds H1 F1 fp1 e1 ss1 r1 k1 ⟨xs, hx⟩ => ?_
  cases r1 with
  | nil => cases hx
  | cons r rs =>
    cases rs with
    | nil => cases r <;> cases hx
    | cons r2 rs2 =>
      cases rs2 with
      | cons => cases r <;> cases r2 <;> cases hx
      | nil =>
        cases r with
        | int n =>
          cases r2 with
          | int m =>
            have hx : rngO n m = some xs := hx
            have k2 := k1 xs hx
            unfold rngO at hx
            split at hx
            · rename_i hn
              cases hx
              exact ⟨n, m, rfl, ⟨by omega, by omega, by omega, by omega⟩, k2 _ (dw_rng (by have := sizeLine_eq; omega))⟩
            · cases hx
          | _ => cases hx
        | _ => cases r2 <;> cases hx
theorem pi_enumD {x : IE} (hg : Gl X "enumerate") (hm : X.mg "enumerate" = none) (ha : PA X [a] (tDs X.K X.mg W (evs [x]))) (hs : starEach [a] X.env = [(false, eval a X.env)]) :
    PI X (.Tuple elts kk tpos) (.Call (.Name "enumerate" p) [a] [] pos) (tI X.K X.mg W (itM .enum [x])) := by
  refine PI.imp (pi_enum hg hm ha hs) fun σ H R h => it_use h fun vs ds H1 F1 fp1 e1 ss1 r1 k1 ⟨xs, hx⟩ => ?_
  cases r1 with
  | nil => cases hx
  | cons r rs =>
    cases rs with
    | cons => cases r <;> cases hx
    | nil =>
      cases r with
      | lst hs hz r =>
        have k2 := k1 xs hx
        cases hx
        exact ⟨_, _, rfl, ss1.le.seq (SqL.of hs), k2 _ (dw_enum hz (SqL.of hs) r)⟩
      | _ => cases hx
theorem pi_zipD {x y : IE} (hg : Gl X "zip") (hm : X.mg "zip" = none) (ha : PA X [a, b] (tDs X.K X.mg W (evs [x, y]))) (hs : starEach [a, b] X.env = (false, eval a X.env) :: starEach [b] X.env) (hpl : (backTo pos (starEach [b] X.env)).any (·.1) = false) :
    PI X (.Tuple elts kk tpos) (.Call (.Name "zip" p) [a, b] [] pos) (tI X.K X.mg W (itM .zip [x, y])) := by
  refine PI.imp (pi_zip hg hm ha hs hpl) fun σ H R h => it_use h fun vs ds H1 F1 fp1 e1 ss1 r1 k1 ⟨xs, hx⟩ => ?_
  cases r1 with
  | nil => cases hx
  | cons r rs =>
    cases rs with
    | nil => cases r <;> cases hx
    | cons r2 rs2 =>
      cases rs2 with
      | cons => cases r <;> cases r2 <;> cases hx
      | nil =>
        cases r with
        | lst hs1 hz1 r1 =>
          cases r2 with
          | lst hs2 hz2 r2 =>
            have k2 := k1 xs hx
            cases hx
            exact ⟨_, _, _, _, rfl, ss1.le.seq (SqL.of hs1), ss1.le.seq (SqL.of hs2), k2 _ (dw_zip hz1 (SqL.of hs1) r1 (SqL.of hs2) r2)⟩
          | _ => cases hx
        | _ => cases r2 <;> cases hx
end
end Rx
end

section
/-! Rx, part 8: comprehensions. -/
namespace Rx
open PySem PySem.Spec PyProof.Rows L2

section
variable {K : PySem.W.Frag} {mg : Str → Option Value} {W : WX} {H F H' F' H1 F1 H0 F0 : Hp} {fp fp1 fp0 fpe fpv : List Addr}
theorem EvR.wipe : ∀ (vs : List Nat) {σ : L2.St} {e : Ev} {fp : List Addr}, EvR K mg H F σ e fp → ∃ fp', EvR K mg H F (L2.wipe σ vs) (wipeE e vs) fp' ∧ (∀ a ∈ fp', a ∈ fp)
  | [], σ, e, fp, r => ⟨fp, r, fun _ q => q⟩
  | v :: vs, σ, e, fp, r => by
    obtain ⟨fp1, h1, h2⟩ := EvR.wipe vs r
    obtain ⟨fp2, h3, h4⟩ := h1.drop v none
    exact ⟨fp2, h3, fun a ha => h2 a (h4 a ha)⟩
theorem wipe_in {σ : L2.St} {i : Nat} : ∀ {vs : List Nat}, i ∈ vs → (L2.wipe σ vs)[i]? = if i < σ.length then some none else none
  | v :: vs, h => by
    show ((L2.wipe σ vs).set v none)[i]? = _
    by_cases q : v = i
    · subst q
      by_cases hl : v < σ.length
      · rw [List.getElem?_set_self (by rw [L2.wipe_length]; exact hl), if_pos hl]
      · rw [if_neg hl, List.getElem?_eq_none (by rw [List.length_set, L2.wipe_length]; omega)]
    · rw [List.getElem?_set_ne q]
      exact wipe_in (by
        rcases List.mem_cons.mp h with z | z
        · exact absurd z.symm q
        · exact z)
theorem wipe_eq {σ σ2 : L2.St} {vs : List Nat} (hl : σ2.length = σ.length) (h : Pr (fun i => !vs.contains i) σ σ2) : L2.wipe σ2 vs = L2.wipe σ vs := by
  apply List.ext_getElem?
  intro i
  by_cases q : i ∈ vs
  · rw [wipe_in q, wipe_in q, hl]
  · rw [L2.wipe_out q, L2.wipe_out q]
    exact h i (by simpa using q)
theorem wipe_wipe {σ : L2.St} {vs : List Nat} : L2.wipe (L2.wipe σ vs) vs = L2.wipe σ vs := by
  refine wipe_eq (L2.wipe_length σ vs) fun i h => ?_
  exact L2.wipe_out (by simpa using h)
theorem ownOk_nodup : ∀ {js : List Nat} {e : Ev}, ownOk e js = true → js.Nodup
  | [], _, _ => .nil
  | j :: js, e, h => by
    unfold ownOk at h
    simp only [Bool.and_eq_true, Bool.not_eq_true', List.contains_eq_mem, decide_eq_false_iff_not] at h
    exact List.nodup_cons.mpr ⟨h.1.2, ownOk_nodup h.2⟩
/-- the own names' slots as they were -/
theorem rest_ok {e0 : Ev} {σ : L2.St} : ∀ (vs : List Nat) {e : Ev} {fp : List Addr} (hn : vs.Nodup), (∀ j ∈ vs, e0.at j = none ∨ ∃ d v, e0.at j = some (.fz d) ∧ σ[j]? = some (some v) ∧ DR K mg F v d) → EvR K mg H F (L2.wipe σ vs) e fp →
    ∃ fp', EvR K mg H F σ (restE e0 e vs) fp' ∧ (∀ a ∈ fp', a ∈ fp)
  | [], e, fp, _, _, r => ⟨fp, r, fun _ q => q⟩
  | j :: js, e, fp, hn, ho, r => by
    have r : EvR K mg H F ((L2.wipe σ js).set j none) e fp := r
    have hj : j ∉ js := (List.nodup_cons.mp hn).1
    have step : ∃ fp1, EvR K mg H F (L2.wipe σ js) (e.set j (e0.at j)) fp1 ∧ (∀ a ∈ fp1, a ∈ fp) := by
      have back : ∀ {s : Option V}, (L2.wipe σ js)[j]? = some s → ((L2.wipe σ js).set j none).set j s = L2.wipe σ js := fun {s} h => by
        rw [List.set_set]
        apply List.ext_getElem?
        intro i
        by_cases q : j = i
        · subst q
          rw [List.getElem?_set_self (List.getElem?_eq_some_iff.mp h).1, h]
        · rw [List.getElem?_set_ne q]
      rcases ho j List.mem_cons_self with h | ⟨d, v, h1, h2, h3⟩
      · rw [h]
        cases hs : (L2.wipe σ js)[j]? with
        | none =>
          have hl : (L2.wipe σ js).length ≤ j := List.getElem?_eq_none_iff.mp hs
          rw [List.set_eq_of_length_le hl] at r
          rw [List.set_eq_of_length_le (by rw [← r.length]; exact hl)]
          exact ⟨fp, r, fun _ q => q⟩
        | some s =>
          obtain ⟨fp1, g1, g2⟩ := r.drop j s
          rw [back hs] at g1
          exact ⟨fp1, g1, g2⟩
      · rw [h1]
        obtain ⟨fp1, g1, g2⟩ := EvR.set (g := []) j r (.fz h3) nm
        rw [back (by rw [L2.wipe_out hj]; exact h2)] at g1
        exact ⟨fp1, g1, fun a ha => (g2 a ha).elim (fun z => nomatch z) id⟩
    obtain ⟨fp1, g1, g2⟩ := step
    obtain ⟨fp2, g3, g4⟩ := rest_ok js (List.nodup_cons.mp hn).2 (fun i hi => ho i (List.mem_cons_of_mem _ hi)) g1
    exact ⟨fp2, g3, fun a ha => g2 a (g4 a ha)⟩
theorem own_data {e : Ev} {σ : L2.St} : ∀ {js : List Nat}, ownOk e js = true → EvR K mg H F σ e fp → ∀ j ∈ js, e.at j = none ∨ ∃ d v, e.at j = some (.fz d) ∧ σ[j]? = some (some v) ∧ DR K mg F v d
  | [], _, _ => fun _ z => nomatch z
  | i :: js, h, r => fun j hj => by
    unfold ownOk at h
    simp only [Bool.and_eq_true] at h
    rcases List.mem_cons.mp hj with rfl | hj
    · cases ha : e.at j with
      | none => exact .inl rfl
      | some t =>
        obtain ⟨v, g, h1, h2, _⟩ := r.at ha
        cases t with
        | fz d =>
          cases h2 with
          | fz x => exact .inr ⟨d, v, rfl, h1, x⟩
        | lst => rw [ha] at h; exact absurd h.1.1 (by simp)
        | dic => rw [ha] at h; exact absurd h.1.1 (by simp)
        | ins => rw [ha] at h; exact absurd h.1.1 (by simp)
    · exact own_data h.2 r j hj
theorem ml_of {vs : List V} {ds : List D} {L : Addr} (h : H L = some (.lst vs)) (hz : vs.length ≤ sizeLine) (r : DRs K mg F vs ds) : OTR K mg H F (.ref L) (.ml ds) [L] := by
  have go : ∀ {vs : List V} {ds : List D}, DRs K mg F vs ds → OTRs K mg H F vs (ds.map .fz) [] := fun {vs} => by
    induction vs with
    | nil => intro ds r; cases r; exact .nil
    | cons v vs ih =>
      intro ds r
      cases r with
      | cons a b => exact .cons (fp := []) (fps := []) (.fz a) (ih b) nm
  exact .lst h hz (go r) (fun z => nomatch z)
theorem DRs.snoc : ∀ {vs : List V} {ds : List D} {v : V} {d : D}, DRs K mg F vs ds → DR K mg F v d → DRs K mg F (vs ++ [v]) (ds ++ [d])
  | _, _, _, _, .nil, r => .cons r .nil
  | _, _, _, _, .cons a b, r => .cons a (DRs.snoc b r)
end

section
variable {X : Cx} {W : WX} {pos : Pos} {elt iter tg : Expr} {ifs : List Expr} {scope : Scope}
/-- nothing is raised -/
abbrev W0 : WX := fun _ _ _ _ => False
theorem lc_use {K : PySem.W.Frag} {mg : Str → Option Value} {tgt : TGt} {mc : M Bool} {me : M OT} {own : List Nat} {mi : M (List D)} {σ : L2.St} {H : Hp} {Q : VK} (ht : (tgt.has.all fun j => own.contains j) = true)
    (h : tD K mg W (M.bind mi fun xs => lcRun own tgt mc me xs) σ H Q) : tLc (tI K mg W mi) (gOf K tgt) (tDb K mg W0 mc) (tD K mg W0 me) own σ H Q := by
  obtain ⟨F, e0, fp, ss, h⟩ := h
  have h : WP K mg W σ H F fp ((mi e0).bind fun xs e1 => lcRun own tgt mc me xs e1) (FinV K mg H F fp σ Q) := h
  refine ⟨F, e0, fp, ss, ?_⟩
  cases hm : mi e0 with
  | bad => rw [hm] at h; exact h.elim
  | exn x e1 => rw [hm] at h; exact h
  | ok xs e1 =>
    rw [hm] at h
    intro J H1 F1 fp1 s1 ss1 wk L hL
    have h : WP K mg W σ H F fp (lcRun own tgt mc me xs e1) (FinV K mg H F fp σ Q) := h
    unfold lcRun at h
    cases hok : ownOk e1 own with
    | false => rw [hok] at h; exact h.elim
    | true =>
      rw [hok] at h
      have hnd := ownOk_nodup hok
      have hod := own_data hok ss1.env
      -- the invariant
      refine ⟨fun i m H2 => i ≤ xs.length ∧ m = xs.length - i ∧ ∃ F2 e2 fp2 vacc acc, Stp H1 F1 fp1 H2 F2 (L :: fp2) ∧ SS K mg H2 F2 (L2.wipe σ own) (wipeE e2 own) fp2 ∧ H2 L = some (.lst vacc) ∧ F2 L = none ∧ L ∉ fp2 ∧ DRs K mg F2 vacc acc ∧ vacc.length ≤ i ∧ i ≤ sizeLine ∧ xs.length ≤ sizeLine ∧
        WP K mg W σ H F fp ((lcGo own tgt mc me (xs.drop i) acc e2).bind fun acc e' => .ok (.ml acc) (restE e1 (wipeE e' own) own)) (FinV K mg H F fp σ Q), ?_, ?_⟩
      · obtain ⟨fp2, g1, g2⟩ := ss1.env.wipe own
        refine ⟨xs.length, Nat.zero_le _, rfl, F1, e1, fp2, [], [], ?_, ⟨same_new ss1.le hL, ?_, fun a ha => ss1.own a (g2 a ha)⟩, upd_same, Same.free ss1.le hL, fun z => ?_, .nil, Nat.le_refl _, Nat.zero_le _, ?_, h⟩
        · exact (Stp.newO hL).sub fun a ha => (List.mem_cons.mp ha).elim (fun z => by rw [z]; exact List.mem_cons_self) fun z => List.mem_cons_of_mem _ (g2 a z)
        · exact g1.keep (Same.refl _) fun a ha o q => by rw [upd_ne (ne_of_none q hL)]; exact q
        · obtain ⟨o, q⟩ := g1.there L z
          rw [hL] at q; cases q
        · exact wk.few
      · rintro i m H2 ⟨hi, rfl, F2, e2, fp2, vacc, acc, s2, ss2, hLv, hLF, hLn, racc, hva, hil, hxl, h2⟩
        have wk2 : DWalk K mg J F2 xs := wk.mono s2.fz
        by_cases hlt : i < xs.length
        · refine .inr ⟨wk2.goes i H2 ss2.le hlt, ?_⟩
          have hd : xs.drop i = xs[i] :: xs.drop (i + 1) := List.drop_eq_getElem_cons hlt
          rw [hd] at h2
          refine ⟨fun H5 => ∃ F5 e5 fp5 vacc5 acc5, Stp H1 F1 fp1 H5 F5 (L :: fp5) ∧ SS K mg H5 F5 (L2.wipe σ own) (wipeE e5 own) fp5 ∧ H5 L = some (.lst vacc5) ∧ F5 L = none ∧ L ∉ fp5 ∧ DRs K mg F5 vacc5 acc5 ∧ vacc5.length ≤ i + 1 ∧
            WP K mg W σ H F fp ((lcGo own tgt mc me (xs.drop (i + 1)) acc5 e5).bind fun acc e' => .ok (.ml acc) (restE e1 (wipeE e' own) own)) (FinV K mg H F fp σ Q), ?_, ?_⟩
          · rintro H5 ⟨F5, e5, fp5, vacc5, acc5, k1, k2, k3, k4, k5, k6, k7, k8⟩
            exact ⟨xs.length - (i + 1), by omega, hlt, rfl, F5, e5, fp5, vacc5, acc5, k1, k2, k3, k4, k5, k6, k7, by omega, hxl, k8⟩
          · intro x H3 hy
            obtain ⟨d, F3, hd1, st3, le3, rd⟩ := wk2.yields i H2 x H3 F2 (Same.refl _) ss2.le hlt hy
            have hd2 : xs[i] = d := Option.some.inj ((List.getElem?_eq_getElem hlt).symm.trans hd1)
            rw [hd2] at h2
            -- the state behind the item
            obtain ⟨k1, k2, k3⟩ := st3.held ss2.env.there (fun a _ q => nomatch q) ss2.own
            have hL3 : H3 L = some (.lst vacc) := st3.ke L _ hLv fun z => nomatch z
            have hLF3 : F3 L = none := (st3.held (gp := [L]) (fun a ha => by
              have : a = L := by simpa using ha
              rw [this]; exact ⟨_, hLv⟩) (fun a _ q => nomatch q) (fun a ha => by
              have : a = L := by simpa using ha
              rw [this]; exact hLF)).2.1 L List.mem_cons_self
            have ss3 : SS K mg H3 F3 (L2.wipe σ own) (wipeE e2 own) fp2 := ⟨le3, ss2.env.keep st3.fz k1, k2⟩
            have s3 : Stp H1 F1 fp1 H3 F3 (L :: fp2) := s2.trans (by simpa using st3.frame (gp := L :: fp2))
            cases hb : bindT tgt d (wipeE e2 own) with
            | none =>
              have : lcGo own tgt mc me (d :: xs.drop (i + 1)) acc e2 = .bad := by
                show (match bindT tgt d (wipeE e2 own) with | none => _ | some e1 => _) = _
                rw [hb]
              rw [this] at h2
              exact h2.elim
            | some e3 =>
              have eq : lcGo own tgt mc me (d :: xs.drop (i + 1)) acc e2 = (noX (mc e3)).bind fun b e4 => pickB b ((noX (me e4)).bind fun t e5 => lcGo own tgt mc me (xs.drop (i + 1)) (acc ++ [t.view]) e5) (lcGo own tgt mc me (xs.drop (i + 1)) acc e4) := by
                show (match bindT tgt d (wipeE e2 own) with | none => _ | some e1 => _) = _
                rw [hb]
              rw [eq] at h2
              refine bindT_ok (P := fun i => !own.contains i) tgt (by simpa using ht) rd hb ss3 fun σ3 fp3 ss4 sub3 pr3 len3 => ?_
              have hw : L2.wipe σ3 own = L2.wipe σ own := by
                rw [wipe_eq len3 pr3, wipe_wipe]
              refine ⟨hw, F3, e3, fp3, ss4, ?_⟩
              have hL4 : L ∉ fp3 := fun z => hLn (sub3 L z)
              -- the turn's end
              have fin : ∀ {H5 F5 : Hp} {fp5 : List Addr} {e5 : Ev} {vacc5 : List V} {acc5 : List D}, Stp H1 F1 fp1 H5 F5 (L :: fp5) → SS K mg H5 F5 σ3 e5 fp5 → H5 L = some (.lst vacc5) → F5 L = none → L ∉ fp5 → DRs K mg F5 vacc5 acc5 → vacc5.length ≤ i + 1 →
                  WP K mg W σ H F fp ((lcGo own tgt mc me (xs.drop (i + 1)) acc5 e5).bind fun acc e' => .ok (.ml acc) (restE e1 (wipeE e' own) own)) (FinV K mg H F fp σ Q) →
                  ∃ F5 e5 fp5 vacc5 acc5, Stp H1 F1 fp1 H5 F5 (L :: fp5) ∧ SS K mg H5 F5 (L2.wipe σ own) (wipeE e5 own) fp5 ∧ H5 L = some (.lst vacc5) ∧ F5 L = none ∧ L ∉ fp5 ∧ DRs K mg F5 vacc5 acc5 ∧ vacc5.length ≤ i + 1 ∧
                    WP K mg W σ H F fp ((lcGo own tgt mc me (xs.drop (i + 1)) acc5 e5).bind fun acc e' => .ok (.ml acc) (restE e1 (wipeE e' own) own)) (FinV K mg H F fp σ Q) := fun {H5 F5 fp5 e5 vacc5 acc5} g1 g2 g3 g4 g5 g6 g7 g8 => by
                obtain ⟨fp6, w1, w2⟩ := g2.env.wipe own
                rw [hw] at w1
                exact ⟨F5, e5, fp6, vacc5, acc5, g1.sub fun a ha => (List.mem_cons.mp ha).elim (fun z => by rw [z]; exact List.mem_cons_self) fun z => List.mem_cons_of_mem _ (w2 a z), ⟨g2.le, w1, fun a ha => g2.own a (w2 a ha)⟩, g3, g4, fun z => g5 (w2 L z), g6, g7, g8⟩
              have heldL : ∀ {Ha Fa Hb Fb : Hp} {fa fb : List Addr}, Stp Ha Fa fa Hb Fb fb → Ha L = some (.lst vacc) → Fa L = none → L ∉ fa → Hb L = some (.lst vacc) ∧ Fb L = none ∧ L ∉ fb := fun {Ha Fa Hb Fb fa fb} st a1 a2 a3 => by
                obtain ⟨b1, b2, b3⟩ := st.held (gp := [L]) (fun a ha => by
                  have : a = L := by simpa using ha
                  rw [this]; exact ⟨_, a1⟩) (fun a ha => by
                  have : a = L := by simpa using ha
                  rw [this]; exact a3) (fun a ha => by
                  have : a = L := by simpa using ha
                  rw [this]; exact a2)
                exact ⟨b1 L List.mem_cons_self _ a1, b2 L List.mem_cons_self, b3 L List.mem_cons_self⟩
              have s3' : Stp H1 F1 fp1 H3 F3 (L :: fp3) := s3.sub fun a ha => (List.mem_cons.mp ha).elim (fun z => by rw [z]; exact List.mem_cons_self) fun z => List.mem_cons_of_mem _ (sub3 a z)
              cases hmc : mc e3 with
              | bad => rw [hmc] at h2; exact h2.elim
              | exn x' e4 => rw [hmc] at h2; exact h2.elim
              | ok bb e4 =>
                rw [hmc] at h2
                intro H4 F4 fp4 st4 ss5
                obtain ⟨c1, c2, c3⟩ := heldL st4 hL3 hLF3 hL4
                have s4 : Stp H1 F1 fp1 H4 F4 (L :: fp4) := s3'.trans (by simpa using st4.frameL (gp := [L]))
                cases bb with
                | false =>
                  refine iteF (fin s4 ss5 c1 c2 c3 ((racc.mono st3.fz).mono st4.fz) (by omega) h2)
                | true =>
                  have h2 : WP K mg W σ H F fp (((noX (me e4)).bind fun t e5 => lcGo own tgt mc me (xs.drop (i + 1)) (acc ++ [t.view]) e5).bind fun acc e' => .ok (.ml acc) (restE e1 (wipeE e' own) own)) (FinV K mg H F fp σ Q) := h2
                  refine iteT ⟨F4, e4, fp4, ss5, ?_⟩
                  cases hme : me e4 with
                  | bad => rw [hme] at h2; exact h2.elim
                  | exn x' e5 => rw [hme] at h2; exact h2.elim
                  | ok t e5 =>
                    rw [hme] at h2
                    intro y H5 F5 fpe5 fpv5 p5
                    obtain ⟨q1, q2, q3⟩ := p5.frz
                    obtain ⟨d1, d2, d3⟩ := heldL q1 c1 c2 c3
                    have racc5 : DRs K mg (frzF F5 H5 fpv5) vacc acc := (((racc.mono st3.fz).mono st4.fz).mono q1.fz)
                    refine ⟨vacc, d1, by have := sizeLine_eq; omega, ?_⟩
                    have hupd : ∀ a ∈ fpe5, ∀ o, H5 a = some o → upd H5 L (.lst (vacc ++ [y])) a = some o := fun a ha o q => by
                      rw [upd_ne (fun z => d3 (by rw [← z]; exact ha))]; exact q
                    refine fin (F5 := frzF F5 H5 fpv5) (fp5 := fpe5) (vacc5 := vacc ++ [y]) (acc5 := acc ++ [t.view]) ?_ ⟨fun a o q => ?_, q2.env.keep (Same.refl _) hupd, q2.own⟩ upd_same d2 d3 (racc5.snoc q3) (by rw [List.length_append]; simp; omega) h2
                    · have := s4.trans (by simpa using q1.frameL (gp := [L]))
                      exact this.trans (Stp.wr List.mem_cons_self)
                    · have : a ≠ L := fun z => by rw [z, d2] at q; cases q
                      rw [upd_ne this]
                      exact q2.le a o q
        · have ei : i = xs.length := by omega
          subst ei
          refine .inl ⟨wk2.stops H2 ss2.le, ?_⟩
          rw [List.drop_length] at h2
          have h2 : FinV K mg H F fp σ Q (.ml acc) (restE e1 (wipeE e2 own) own) := h2
          obtain ⟨fp3, r1, r2⟩ := rest_ok own hnd (fun j hj => (hod j hj).imp id fun ⟨d, v, a1, a2, a3⟩ => ⟨d, v, a1, a2, a3.mono s2.fz⟩) ss2.env
          refine h2 (.ref L) H2 F2 fp3 [L] ⟨(s1.trans s2).sub fun a ha => ?_, ⟨ss2.le, r1, fun a ha => ss2.own a (r2 a ha)⟩, ml_of hLv (by omega) racc, fun a ha q => ?_, fun a ha => ?_⟩
          · exact (List.mem_append.mp ha).elim (fun z => by have : a = L := by simpa using z
                                                            rw [this]; exact List.mem_cons_self) fun z => List.mem_cons_of_mem _ (r2 a z)
          · have : a = L := by simpa using ha
            rw [this] at q
            exact hLn (r2 L q)
          · have : a = L := by simpa using ha
            rw [this]; exact hLF
end
end Rx
end

section
/-! Rx, part 9: statements. -/
namespace Rx
open PySem PySem.Spec PyProof.Rows L2

theorem PS.imp {X : Cx} {s : Stmt} {t t' : TS} (h : PS X s t) (f : ∀ D σ H, t' D σ H → t D σ H) : PS X s t' := ⟨fun pins s σ H D I q => h.run pins s σ H D I (f D σ H q)⟩
theorem PSs.imp {X : Cx} {s : List Stmt} {t t' : TS} (h : PSs X s t) (f : ∀ D σ H, t' D σ H → t D σ H) : PSs X s t' := ⟨fun pins s σ H D I q => h.run pins s σ H D I (f D σ H q)⟩

section
variable (K : PySem.W.Frag) (mg : Str → Option Value)
/-- what is wanted behind statements, from the state at their start -/
def WS (W : WX) (P : Nat → Bool) (D : Ends) (H F : Hp) (fp : List Addr) (σ : L2.St) (r : SR) : Prop :=
  match r with
  | .bad => False
  | .nx e => ∀ σ' H' F' fp', Stp H F fp H' F' fp' → SS K mg H' F' σ' e fp' → Pr P σ σ' → D.nx σ' H'
  | .brk e => ∀ σ' H' F' fp', Stp H F fp H' F' fp' → SS K mg H' F' σ' e fp' → Pr P σ σ' → D.bk σ' H'
  | .ct e => ∀ σ' H' F' fp', Stp H F fp H' F' fp' → SS K mg H' F' σ' e fp' → Pr P σ σ' → D.ct σ' H'
  | .ret t e => ∀ v σ' H' F' fpe fpv, VPost K mg H F fp σ' e v t H' F' fpe fpv → Pr P σ σ' → D.rt v H'
  | .exn x e => ∀ cls d σ' H' F' fp', Stp H F fp H' F' fp' → SS K mg H' F' σ' e fp' → Pr P σ σ' → ExR K mg H' F' x cls d → W cls d σ' H'
def tS (W : WX) (P : Nat → Bool) (m : Ev → SR) : TS := fun D σ H => ∃ F e fp, SS K mg H F σ e fp ∧ WS K mg W P D H F fp σ (m e)
end

section
variable {K : PySem.W.Frag} {mg : Str → Option Value} {W : WX} {P : Nat → Bool} {D D0 : Ends} {σ σ0 : L2.St} {H F H' F' H1 F1 H0 F0 : Hp} {fp fp1 fp0 fpe fpv : List Addr} {e : Ev}
theorem VPost.pre {v : V} {t : OT} {e1 : Ev} (s : Stp H0 F0 fp0 H F fp) (p : VPost K mg H F fp σ e1 v t H1 F1 fpe fpv) : VPost K mg H0 F0 fp0 σ e1 v t H1 F1 fpe fpv := ⟨s.trans p.st, p.ss, p.val, p.dis, p.own⟩
theorem WS.step {r : SR} (s : Stp H0 F0 fp0 H F fp) (p : Pr P σ0 σ) (h : WS K mg W P D H0 F0 fp0 σ0 r) : WS K mg W P D H F fp σ r := by
  cases r with
  | bad => exact h
  | nx e => exact fun σ' H' F' fp' st ss q => h σ' H' F' fp' (s.trans st) ss (p.trans q)
  | brk e => exact fun σ' H' F' fp' st ss q => h σ' H' F' fp' (s.trans st) ss (p.trans q)
  | ct e => exact fun σ' H' F' fp' st ss q => h σ' H' F' fp' (s.trans st) ss (p.trans q)
  | ret t e => exact fun v σ' H' F' fpe fpv vp q => h v σ' H' F' fpe fpv (vp.pre s) (p.trans q)
  | exn x e => exact fun cls d σ' H' F' fp' st ss q => h cls d σ' H' F' fp' (s.trans st) ss (p.trans q)
theorem goS {m : Ev → SR} (s : Stp H0 F0 fp0 H F fp) (p : Pr P σ0 σ) (ss : SS K mg H F σ e fp) (h : WS K mg W P D H0 F0 fp0 σ0 (m e)) : tS K mg W P m D σ H := ⟨F, e, fp, ss, WS.step s p h⟩
theorem st_xc {x : Exn} {e1 : Ev} (s : Stp H0 F0 fp0 H F fp) (p : Pr P σ0 σ) (h : WS K mg W P D H0 F0 fp0 σ0 (.exn x e1)) : Xc K mg W σ H F fp x e1 := fun cls d H' F' fpe st ss ex => h cls d σ H' F' fpe (s.trans st) ss p ex
/-- an operand in a statement, something being held -/
theorem opd_st {x : IE} {m : M OT} {f : Option Rx.D → Ev → SR} {cont : V → Hp → Prop} {g : List Addr} (s : Stp H0 F0 fp0 H F (g ++ fp)) (p : Pr P σ0 σ) (ss : SS K mg H F σ e fp) (h : WS K mg W P D0 H0 F0 fp0 σ0 ((opd x m e).st f))
    (c : ∀ v H1 F1 fp1 r e1, Stp H F fp H1 F1 fp1 → SS K mg H1 F1 σ e1 fp1 → OpH K mg F1 σ x r v → WS K mg W P D0 H0 F0 fp0 σ0 (f r e1) → cont v H1) : tO K mg W x m σ H cont := by
  have h0 : ∀ {r : Option D} {e1 : Ev}, WP K mg W σ H F fp (((opd x m e).bind fun r e1 => R.ok (r, e1) e1)) (fun q _ => WS K mg W P D0 H0 F0 fp0 σ0 (f q.1 q.2)) := by
    intro _ _
    cases hm : opd x m e with
    | bad => rw [hm] at h; exact h
    | exn x1 e1 =>
      rw [hm] at h
      exact fun cls d H' F' fpe st s1 ex => h cls d σ H' F' fpe ((s.trans st.frameL).sub fun a ha => List.mem_append_right _ ha) s1 p ex
    | ok r e1 => rw [hm] at h; exact h
  exact opd_use Stp.refl ss (h0 (r := none) (e1 := [])) fun v H1 F1 fp1 r e1 st _ s1 o q => c v H1 F1 fp1 r e1 st s1 o q
theorem tD_st {m : M OT} {f : OT → Ev → SR} {cont : V → Hp → Prop} (s : Stp H0 F0 fp0 H F fp) (p : Pr P σ0 σ) (ss : SS K mg H F σ e fp) (h : WS K mg W P D H0 F0 fp0 σ0 ((m e).st f))
    (c : ∀ v t H1 F1 fpe fpv e1, VPost K mg H F fp σ e1 v t H1 F1 fpe fpv → WS K mg W P D H0 F0 fp0 σ0 (f t e1) → cont v H1) : tD K mg W m σ H cont := by
  refine ⟨F, e, fp, ss, ?_⟩
  cases hm : m e with
  | bad => rw [hm] at h; exact h.elim
  | exn x e1 => rw [hm] at h; exact st_xc s p h
  | ok t e1 => rw [hm] at h; exact fun v H1 F1 fpe fpv q => c v t H1 F1 fpe fpv e1 q h
theorem tDs_st {m : M (List OT)} {f : List OT → Ev → SR} {cont : List V → Hp → Prop} (s : Stp H0 F0 fp0 H F fp) (p : Pr P σ0 σ) (ss : SS K mg H F σ e fp) (h : WS K mg W P D H0 F0 fp0 σ0 ((m e).st f))
    (c : ∀ v t H1 F1 fpe fpv e1, VsPost K mg H F fp σ e1 v t H1 F1 fpe fpv → WS K mg W P D H0 F0 fp0 σ0 (f t e1) → cont v H1) : tDs K mg W m σ H cont := by
  refine ⟨F, e, fp, ss, ?_⟩
  cases hm : m e with
  | bad => rw [hm] at h; exact h.elim
  | exn x e1 => rw [hm] at h; exact st_xc s p h
  | ok t e1 => rw [hm] at h; exact fun v H1 F1 fpe fpv q => c v t H1 F1 fpe fpv e1 q h
theorem tDb_st {m : M Bool} {f : Bool → Ev → SR} {cont : Bool → Hp → Prop} (s : Stp H0 F0 fp0 H F fp) (p : Pr P σ0 σ) (ss : SS K mg H F σ e fp) (h : WS K mg W P D H0 F0 fp0 σ0 ((m e).st f))
    (c : ∀ b H1 F1 fp1 e1, Stp H F fp H1 F1 fp1 → SS K mg H1 F1 σ e1 fp1 → WS K mg W P D H0 F0 fp0 σ0 (f b e1) → cont b H1) : tDb K mg W m σ H cont := by
  refine ⟨F, e, fp, ss, ?_⟩
  cases hm : m e with
  | bad => rw [hm] at h; exact h.elim
  | exn x e1 => rw [hm] at h; exact st_xc s p h
  | ok t e1 => rw [hm] at h; exact fun H1 F1 fp1 st s1 => c t H1 F1 fp1 e1 st s1 h
theorem SS.setO {j : Nat} {v : V} {t : OT} {g : List Addr} (ss : SS K mg H F σ e fp) (o : OTR K mg H F v t g) (d : ∀ a ∈ g, a ∉ fp) (ow : ∀ a ∈ g, F a = none) : ∃ fp', SS K mg H F (σ.set j (some v)) (e.set j (some t)) fp' ∧ (∀ a ∈ fp', a ∈ g ∨ a ∈ fp) := by
  obtain ⟨fp', h1, h2⟩ := EvR.set j ss.env o d
  exact ⟨fp', ⟨ss.le, h1, fun a ha => (h2 a ha).elim (ow a) (ss.own a)⟩, h2⟩
end

section
variable {X : Cx} {W : WX} {P : Nat → Bool} {pos : Pos} {st : Stmt} {rest a b : List Stmt} {e c tg iter : Expr} {te : TE}
abbrev tSX (X : Cx) (W : WX) (P : Nat → Bool) (m : Ev → SR) : TS := tS X.K X.mg W P m
/-! ### blocks -/
theorem pss_nilD : PSs X [] (tSX X W P (run [])) := PSs.imp pss_nil fun D σ H h => by
  obtain ⟨F, en, fp, ss, h⟩ := h
  exact h σ H F fp Stp.refl ss Pr.refl
theorem pss_consD {s : IS} {ss : List IS} (h1 : PS X st (tSX X W P (run1 s))) (h2 : PSs X rest (tSX X W P (run ss))) : PSs X (st :: rest) (tSX X W P (run (s :: ss))) := by
  refine PSs.imp (pss_cons h1 h2) fun D σ H h => ?_
  obtain ⟨F, en, fp, s0, h⟩ := h
  refine ⟨F, en, fp, s0, ?_⟩
  have h : WS X.K X.mg W P D H F fp σ ((run1 s en).sq (run ss)) := h
  cases hm : run1 s en with
  | bad => rw [hm] at h; exact h
  | nx e1 => rw [hm] at h; exact fun σ' H' F' fp' st s1 p => goS st p s1 h
  | brk e1 => rw [hm] at h; exact h
  | ct e1 => rw [hm] at h; exact h
  | ret t e1 => rw [hm] at h; exact h
  | exn x e1 => rw [hm] at h; exact h
/-! ### small statements -/
theorem ps_asgD {j : Nat} {x : IE} (hP : P j = false) (hs : PS X st (tAsg te (gName j))) (hte : ∀ σ H Q, tDX X W (sem x).1 σ H Q → te σ H Q) : PS X st (tSX X W P (run1 (.asg j x))) := by
  refine PS.imp hs fun D σ H h => ?_
  obtain ⟨F, en, fp, ss, h⟩ := h
  refine hte σ H _ (tD_st Stp.refl Pr.refl ss h fun v t H1 F1 fpe fpv e1 p h1 => ?_)
  obtain ⟨fp', k1, k2⟩ := p.ss.setO (j := j) p.val p.dis p.own
  exact h1 _ H1 F1 fp' (p.st.sub fun a ha => List.mem_append.mpr (k2 a ha)) k1 (Pr.set hP)
theorem ps_asgTD {tgt : TGt} {x : IE} (hP : (tgt.has.all fun j => !P j) = true) (hs : PS X st (tAsg te (gOf X.K tgt))) (hte : ∀ σ H Q, tDX X W (sem x).1 σ H Q → te σ H Q) : PS X st (tSX X W P (run1 (.asgT tgt x))) := by
  refine PS.imp hs fun D σ H h => ?_
  obtain ⟨F, en, fp, ss, h⟩ := h
  refine hte σ H _ (tD_st Stp.refl Pr.refl ss h fun v t H1 F1 fpe fpv e1 p h1 => ?_)
  obtain ⟨q1, q2, q3⟩ := p.frz
  cases hb : bindT tgt t.view e1 with
  | none => rw [hb] at h1; exact h1.elim
  | some e2 =>
    rw [hb] at h1
    exact bindT_ok tgt hP q3 hb q2 fun σ' fp' s' sub pr _ => h1 σ' H1 _ fp' (q1.sub sub) s' pr
theorem ps_exD {x : IE} (hs : PS X st (tDrop te)) (hte : ∀ σ H Q, tDX X W (sem x).1 σ H Q → te σ H Q) : PS X st (tSX X W P (run1 (.ex x))) := by
  refine PS.imp hs fun D σ H h => ?_
  obtain ⟨F, en, fp, ss, h⟩ := h
  refine hte σ H _ (tD_st Stp.refl Pr.refl ss h fun v t H1 F1 fpe fpv e1 p h1 => ?_)
  exact h1 σ H1 F1 fpe (p.st.sub fun a ha => List.mem_append_right _ ha) p.ss Pr.refl
theorem ps_retD {x : IE} (he : PE X e (tDX X W (sem x).1)) : PS X (.Return (some e) pos) (tSX X W P (run1 (.ret x))) := by
  refine PS.imp (ps_ret he) fun D σ H h => ?_
  obtain ⟨F, en, fp, ss, h⟩ := h
  exact tD_st Stp.refl Pr.refl ss h fun v t H1 F1 fpe fpv e1 p h1 => h1 v σ H1 F1 fpe fpv p Pr.refl
theorem ps_retND : PS X (.Return none pos) (tSX X W P (run1 .retN)) := by
  refine PS.imp ps_retN fun D σ H h => ?_
  obtain ⟨F, en, fp, ss, h⟩ := h
  exact h .non σ H F fp [] ⟨Stp.refl, ss, .fz .non, nm, nm⟩ Pr.refl
theorem ps_brkD : PS X (.Break pos) (tSX X W P (run1 .brk)) := PS.imp ps_break fun D σ H h => by
  obtain ⟨F, en, fp, ss, h⟩ := h
  exact h σ H F fp Stp.refl ss Pr.refl
theorem ps_contD : PS X (.Continue pos) (tSX X W P (run1 .cont)) := PS.imp ps_continue fun D σ H h => by
  obtain ⟨F, en, fp, ss, h⟩ := h
  exact h σ H F fp Stp.refl ss Pr.refl
theorem ps_passD : PS X (.Pass pos) (tSX X W P (run1 .pass)) := PS.imp ps_pass fun D σ H h => by
  obtain ⟨F, en, fp, ss, h⟩ := h
  exact h σ H F fp Stp.refl ss Pr.refl
theorem ps_iffD {x : IE} {sa sb : List IS} (hc : PT X c (tDbX X W (sem x).2)) (ha : PSs X a (tSX X W P (run sa))) (hb : PSs X b (tSX X W P (run sb))) : PS X (.If c a b pos) (tSX X W P (run1 (.iff x sa sb))) := by
  refine PS.imp (ps_if hc ha hb) fun D σ H h => ?_
  obtain ⟨F, en, fp, ss, h⟩ := h
  refine tDb_st Stp.refl Pr.refl ss h fun k H1 F1 fp1 e1 s1 ss1 h1 => ?_
  cases k with
  | true => exact iteT (goS s1 Pr.refl ss1 h1)
  | false => exact iteF (goS s1 Pr.refl ss1 h1)
/-! ### loops -/
theorem ps_forD {tgt : TGt} {k : ITK} {its : List IE} {body : List Stmt} {sb : List IS} (hP : (tgt.has.all fun j => !P j) = true) (hs : PS X st (tFor (tI X.K X.mg W (itM k its)) (gOf X.K tgt) (tSX X W P (run sb)))) :
    PS X st (tSX X W P (run1 (.for_ tgt k its sb))) := by
  refine PS.imp hs fun D σ H h => ?_
  obtain ⟨F, en, fp, ss, h⟩ := h
  refine ⟨F, en, fp, ss, ?_⟩
  have h : WS X.K X.mg W P D H F fp σ ((itM k its en).st fun xs e1 => forGo tgt (run sb) xs e1) := h
  cases hm : itM k its en with
  | bad => rw [hm] at h; exact h.elim
  | exn x e1 => rw [hm] at h; exact st_xc Stp.refl Pr.refl h
  | ok xs e1 =>
    rw [hm] at h
    intro J H1 F1 fp1 s1 ss1 wk
    have h : WS X.K X.mg W P D H F fp σ (forGo tgt (run sb) xs e1) := h
    refine ⟨fun i m σ2 H2 => i ≤ xs.length ∧ m = xs.length - i ∧ ∃ F2 e2 fp2, Stp H F fp H2 F2 fp2 ∧ Same F1 F2 ∧ SS X.K X.mg H2 F2 σ2 e2 fp2 ∧ Pr P σ σ2 ∧ WS X.K X.mg W P D H F fp σ (forGo tgt (run sb) (xs.drop i) e2), ⟨xs.length, Nat.zero_le _, rfl, F1, e1, fp1, s1, Same.refl _, ss1, Pr.refl, h⟩, ?_⟩
    rintro i m σ2 H2 ⟨hi, rfl, F2, e2, fp2, s2, sf2, ss2, p2, h2⟩
    have wk2 := wk.mono sf2
    by_cases hlt : i < xs.length
    · refine .inr ⟨wk2.goes i H2 ss2.le hlt, ?_⟩
      have hd : xs.drop i = xs[i] :: xs.drop (i + 1) := List.drop_eq_getElem_cons hlt
      rw [hd] at h2
      refine ⟨fun σ3 H3 => ∃ F3 e3 fp3, Stp H F fp H3 F3 fp3 ∧ Same F1 F3 ∧ SS X.K X.mg H3 F3 σ3 e3 fp3 ∧ Pr P σ σ3 ∧ WS X.K X.mg W P D H F fp σ (forGo tgt (run sb) (xs.drop (i + 1)) e3), ?_, ?_⟩
      · rintro σ3 H3 ⟨F3, e3, fp3, k1, k2, k3, k4, k5⟩
        exact ⟨xs.length - (i + 1), by omega, hlt, rfl, F3, e3, fp3, k1, k2, k3, k4, k5⟩
      · intro x H3 hy
        obtain ⟨d, F3, hd1, st3, le3, rd⟩ := wk2.yields i H2 x H3 F2 (Same.refl _) ss2.le hlt hy
        have hd2 : xs[i] = d := Option.some.inj ((List.getElem?_eq_getElem hlt).symm.trans hd1)
        rw [hd2] at h2
        obtain ⟨k1, k2, k3⟩ := st3.held ss2.env.there (fun a _ q => nomatch q) ss2.own
        have ss3 : SS X.K X.mg H3 F3 σ2 e2 fp2 := ⟨le3, ss2.env.keep st3.fz k1, k2⟩
        have s3 : Stp H F fp H3 F3 fp2 := s2.trans (by simpa using st3.frame (gp := fp2))
        cases hb : bindT tgt d e2 with
        | none =>
          have : forGo tgt (run sb) (d :: xs.drop (i + 1)) e2 = .bad := by
            show (match bindT tgt d e2 with | none => _ | some e1 => _) = _
            rw [hb]
          rw [this] at h2
          exact h2.elim
        | some e3 =>
          have eq : forGo tgt (run sb) (d :: xs.drop (i + 1)) e2 = (run sb e3).lp (forGo tgt (run sb) (xs.drop (i + 1))) := by
            show (match bindT tgt d e2 with | none => _ | some e1 => _) = _
            rw [hb]
          rw [eq] at h2
          refine bindT_ok tgt hP rd hb ss3 fun σ3 fp3 ss4 sub3 pr3 _ => ?_
          refine ⟨F3, e3, fp3, ss4, ?_⟩
          have s4 : Stp H F fp H3 F3 fp3 := s3.sub sub3
          have p4 : Pr P σ σ3 := p2.trans pr3
          cases hr : run sb e3 with
          | bad => rw [hr] at h2; exact h2.elim
          | nx e4 => rw [hr] at h2; exact fun σ5 H5 F5 fp5 st5 ss5 p5 => ⟨F5, e4, fp5, s4.trans st5, (sf2.trans st3.fz).trans st5.fz, ss5, p4.trans p5, h2⟩
          | ct e4 => rw [hr] at h2; exact fun σ5 H5 F5 fp5 st5 ss5 p5 => ⟨F5, e4, fp5, s4.trans st5, (sf2.trans st3.fz).trans st5.fz, ss5, p4.trans p5, h2⟩
          | brk e4 => rw [hr] at h2; exact WS.step (r := .nx e4) s4 p4 h2
          | ret t e4 => rw [hr] at h2; exact WS.step (r := .ret t e4) s4 p4 h2
          | exn x e4 => rw [hr] at h2; exact WS.step (r := .exn x e4) s4 p4 h2
    · have ei : i = xs.length := by omega
      subst ei
      rw [List.drop_length] at h2
      exact .inl ⟨wk2.stops H2 ss2.le, h2 σ2 H2 F2 fp2 s2 ss2 p2⟩
theorem ps_whlD {n : Nat} {x : IE} {body : List Stmt} {sb : List IS} (hp : PassesOwn (model X.prog X.w) X.A X.env X.xe) (hc : PT X c (tDbX X W (sem x).2)) (hb : PSs X body (tSX X W P (run sb))) :
    PS X (.While c body [] pos) (tSX X W P (run1 (.whl n x sb))) := by
  refine PS.imp (ps_while hp hc hb) fun D σ H h => ?_
  obtain ⟨F, en, fp, ss, h⟩ := h
  have h : WS X.K X.mg W P D H F fp σ (whGo (sem x).2 (run sb) n en) := h
  refine ⟨fun m σ2 H2 => ∃ F2 e2 fp2, Stp H F fp H2 F2 fp2 ∧ SS X.K X.mg H2 F2 σ2 e2 fp2 ∧ Pr P σ σ2 ∧ WS X.K X.mg W P D H F fp σ (whGo (sem x).2 (run sb) m e2), ⟨n, F, en, fp, Stp.refl, ss, Pr.refl, h⟩, ?_⟩
  rintro m σ2 H2 ⟨F2, e2, fp2, s2, ss2, p2, h2⟩
  cases m with
  | zero => exact h2.elim
  | succ m =>
    have h2 : WS X.K X.mg W P D H F fp σ (((sem x).2 e2).st fun b e1 => pickB b ((run sb e1).lp (whGo (sem x).2 (run sb) m)) (.nx e1)) := h2
    refine tDb_st s2 p2 ss2 h2 fun k H3 F3 fp3 e3 s3 ss3 h3 => ?_
    cases k with
    | false => exact iteF ((show WS X.K X.mg W P D H F fp σ (.nx e3) from h3) σ2 H3 F3 fp3 (s2.trans s3) ss3 p2)
    | true =>
      have h3 : WS X.K X.mg W P D H F fp σ ((run sb e3).lp (whGo (sem x).2 (run sb) m)) := h3
      refine iteT ⟨fun σ4 H4 => ∃ F4 e4 fp4, Stp H F fp H4 F4 fp4 ∧ SS X.K X.mg H4 F4 σ4 e4 fp4 ∧ Pr P σ σ4 ∧ WS X.K X.mg W P D H F fp σ (whGo (sem x).2 (run sb) m e4), fun σ4 H4 q => ⟨m, Nat.lt_succ_self m, q⟩, F3, e3, fp3, ss3, ?_⟩
      cases hr : run sb e3 with
      | bad => rw [hr] at h3; exact h3.elim
      | nx e4 => rw [hr] at h3; exact fun σ5 H5 F5 fp5 st5 ss5 p5 => ⟨F5, e4, fp5, (s2.trans s3).trans st5, ss5, p2.trans p5, h3⟩
      | ct e4 => rw [hr] at h3; exact fun σ5 H5 F5 fp5 st5 ss5 p5 => ⟨F5, e4, fp5, (s2.trans s3).trans st5, ss5, p2.trans p5, h3⟩
      | brk e4 => rw [hr] at h3; exact WS.step (r := .nx e4) (s2.trans s3) p2 h3
      | ret t e4 => rw [hr] at h3; exact WS.step (r := .ret t e4) (s2.trans s3) p2 h3
      | exn x e4 => rw [hr] at h3; exact WS.step (r := .exn x e4) (s2.trans s3) p2 h3
end
end Rx
end

section
/-! Rx, part 10: what changes a list or a dict; a def's promise. -/
namespace Rx
open PySem PySem.Spec PyProof.Rows L2

section
variable {K : PySem.W.Frag} {mg : Str → Option Value} {W : WX} {P : Nat → Bool} {D : Ends} {σ σ0 : L2.St} {H F H' F' H1 F1 H0 F0 : Hp} {fp fp1 fp0 fpe fpv : List Addr} {e : Ev}
/-- an owned list in a slot -/
structure LsAt (K : PySem.W.Frag) (mg : Str → Option Value) (H F : Hp) (σ : L2.St) (e : Ev) (fp : List Addr) (j : Nat) (ts : List OT) (a : Addr) (vs : List V) (g rest : List Addr) : Prop where
  slot : σ[j]? = some (some (.ref a))
  obj : H a = some (.lst vs)
  few : vs.length ≤ sizeLine
  its : OTRs K mg H F vs ts g
  na : a ∉ g
  env : EvR K mg H F σ (e.set j none) rest
  all : ∀ b, b ∈ fp ↔ (b = a ∨ b ∈ g) ∨ b ∈ rest
  nr : a ∉ rest
  dis : ∀ b ∈ g, b ∉ rest
theorem SS.list {j : Nat} {ts : List OT} (ss : SS K mg H F σ e fp) (hj : e.at j = some (.lst ts)) : ∃ a vs g rest, LsAt K mg H F σ e fp j ts a vs g rest := by
  obtain ⟨v, g, rest, h1, h2, h3, h4, h5⟩ := ss.env.take hj
  cases h2 with
  | lst hl hz r n =>
    exact ⟨_, _, _, rest, h1, hl, hz, r, n, h3, fun b => by rw [h4, List.mem_cons], h5 _ List.mem_cons_self, fun b hb => h5 b (List.mem_cons_of_mem _ hb)⟩
/-- it is changed -/
theorem LsAt.put {j : Nat} {ts : List OT} {a : Addr} {vs : List V} {g rest : List Addr} (ss : SS K mg H F σ e fp) (l : LsAt K mg H F σ e fp j ts a vs g rest) {vs' : List V} {ts' : List OT} {g' : List Addr} (hz : vs'.length ≤ sizeLine)
    (r : OTRs K mg H F vs' ts' g') (n : a ∉ g') (d : ∀ b ∈ g', b ∉ rest) (ow : ∀ b ∈ g', F b = none) :
    ∃ fp', SS K mg (upd H a (.lst vs')) F σ (e.set j (some (.lst ts'))) fp' ∧ ∀ b ∈ fp', (b = a ∨ b ∈ g') ∨ b ∈ rest := by
  have na : F a = none := ss.own a ((l.all a).mpr (.inl (.inl rfl)))
  have k : ∀ {gp : List Addr}, a ∉ gp → ∀ b ∈ gp, ∀ o, H b = some o → upd H a (.lst vs') b = some o := fun {gp} hn b hb o q => by
    rw [upd_ne (fun z => hn (by rw [← z]; exact hb))]; exact q
  have r2 : OTR K mg (upd H a (.lst vs')) F (.ref a) (.lst ts') (a :: g') := .lst upd_same hz (r.keep (Same.refl _) (k n)) n
  obtain ⟨fp', h1, h2⟩ := EvR.put (l.env.keep (Same.refl _) (k l.nr)) l.slot r2 fun b hb => by
    rcases List.mem_cons.mp hb with z | z
    · rw [z]; exact l.nr
    · exact d b z
  rw [List.set_set] at h1
  have h3 : ∀ b ∈ fp', (b = a ∨ b ∈ g') ∨ b ∈ rest := fun b hb => (h2 b hb).imp (fun z => List.mem_cons.mp z) id
  refine ⟨fp', ⟨fun b o q => ?_, h1, fun b hb => ?_⟩, h3⟩
  · rw [upd_ne (fun z => by rw [z, na] at q; cases q)]; exact ss.le b o q
  · rcases h3 b hb with (z | z) | z
    · rw [z]; exact na
    · exact ow b z
    · exact ss.own b ((l.all b).mpr (.inr z))
theorem LsAt.stp {j : Nat} {ts : List OT} {a : Addr} {vs vs' : List V} {g rest : List Addr} (l : LsAt K mg H F σ e fp j ts a vs g rest) {gp : List Addr} : Stp H F (gp ++ fp) (upd H a (.lst vs')) F (gp ++ fp) := Stp.wr (List.mem_append_right _ ((l.all a).mpr (.inl (.inl rfl))))
theorem OTRs.snoc : ∀ {vs : List V} {ts : List OT} {fp g : List Addr} {v : V} {t : OT}, OTRs K mg H F vs ts fp → OTR K mg H F v t g → (∀ a ∈ g, a ∉ fp) → OTRs K mg H F (vs ++ [v]) (ts ++ [t]) (fp ++ g)
  | _, _, _, g, _, _, .nil, o, _ => by
    have : OTRs K mg H F [_] [_] (g ++ []) := .cons o .nil fun a _ z => nomatch z
    simpa using this
  | _, _, _, g, _, _, .cons (fp := f1) (fps := f2) h r n, o, d => by
    have r2 := OTRs.snoc r o fun a ha z => d a ha (List.mem_append_right _ z)
    have := OTRs.cons h r2 fun a ha z => by
      rcases List.mem_append.mp z with z | z
      · exact n a ha z
      · exact d a z (List.mem_append_left _ ha)
    rw [List.append_assoc]
    exact this
theorem OTRs.of_fz : ∀ {vs : List V} {ds : List Rx.D}, DRs K mg F vs ds → OTRs K mg H F vs (ds.map .fz) []
  | _, _, .nil => .nil
  | _, _, .cons a b => .cons (fp := []) (fps := []) (.fz a) (OTRs.of_fz b) nm
theorem OTRs.append : ∀ {vs ws : List V} {ts us : List OT} {fp : List Addr}, OTRs K mg H F vs ts fp → OTRs K mg H F ws us [] → OTRs K mg H F (vs ++ ws) (ts ++ us) fp
  | _, _, _, _, _, .nil, r => r
  | _, _, _, _, _, .cons h r n, r2 => .cons h (OTRs.append r r2) n
theorem OTRs.set : ∀ {vs : List V} {ts : List OT} {fp g : List Addr} {v : V} {t : OT} (n : Nat), OTRs K mg H F vs ts fp → OTR K mg H F v t g → (∀ a ∈ g, a ∉ fp) → ∃ fp', OTRs K mg H F (vs.set n v) (ts.set n t) fp' ∧ ∀ a ∈ fp', a ∈ g ∨ a ∈ fp
  | _, _, _, g, _, _, _, .nil, _, _ => ⟨[], .nil, fun _ z => nomatch z⟩
  | _, _, _, g, _, _, 0, .cons (fp := f1) (fps := f2) h r n, o, d => ⟨g ++ f2, .cons o r fun a ha z => d a ha (List.mem_append_right _ z), fun a ha => (List.mem_append.mp ha).imp id fun z => List.mem_append_right _ z⟩
  | _, _, _, g, _, _, i + 1, .cons (fp := f1) (fps := f2) h r n, o, d => by
    obtain ⟨fp', h1, h2⟩ := OTRs.set i r o fun a ha z => d a ha (List.mem_append_right _ z)
    refine ⟨f1 ++ fp', .cons h h1 fun a ha z => ?_, fun a ha => ?_⟩
    · rcases h2 a z with q | q
      · exact d a q (List.mem_append_left _ ha)
      · exact n a ha q
    · rcases List.mem_append.mp ha with q | q
      · exact .inr (List.mem_append_left _ q)
      · exact (h2 a q).imp id fun z => List.mem_append_right _ z
theorem OTRs.get : ∀ {vs : List V} {ts : List OT} {fp : List Addr} {n : Nat} {t : OT}, OTRs K mg H F vs ts fp → ts[n]? = some t → ∃ v g, vs[n]? = some v ∧ OTR K mg H F v t g
  | _, _, _, _, _, .nil, h => by simp at h
  | _, _, _, 0, _, .cons o r _, h => by simp at h; subst h; exact ⟨_, _, rfl, o⟩
  | _, _, _, n + 1, _, .cons o r _, h => by
    obtain ⟨v, g, h1, h2⟩ := OTRs.get (n := n) r (by simpa using h)
    exact ⟨v, g, by simpa using h1, h2⟩
theorem OTRs.erase : ∀ {vs : List V} {ts : List OT} {fp : List Addr} (n : Nat), OTRs K mg H F vs ts fp → ∃ fp', OTRs K mg H F (vs.eraseIdx n) (ts.eraseIdx n) fp' ∧ ∀ a ∈ fp', a ∈ fp
  | _, _, _, _, .nil => ⟨[], .nil, fun _ z => nomatch z⟩
  | _, _, _, 0, .cons (fp := f1) (fps := f2) h r n => ⟨f2, r, fun a z => List.mem_append_right _ z⟩
  | _, _, _, i + 1, .cons (fp := f1) (fps := f2) h r n => by
    obtain ⟨fp', h1, h2⟩ := OTRs.erase i r
    exact ⟨f1 ++ fp', .cons h h1 fun a ha z => n a ha (h2 a z), fun a ha => (List.mem_append.mp ha).elim (fun z => List.mem_append_left _ z) fun z => List.mem_append_right _ (h2 a z)⟩
theorem sizeMax_eq : sizeMax = sizeLine := sizeLine_eq.symm
theorem plc_ixN {n k : Nat} {i : Int} (h : plc n i = some k) : L2.ixN n i = some k ∧ k < n := by
  unfold plc at h
  unfold L2.ixN
  cases i with
  | ofNat m =>
    simp only at h
    split at h
    · cases h
      rename_i hm
      rw [show Int.ofNat k = (k : Int) from rfl, if_pos (by omega), if_pos (by omega)]
      exact ⟨by simp, hm⟩
    · cases h
  | negSucc m =>
    simp only at h
    split at h
    · cases h
      rename_i hm
      rw [if_neg (by omega), if_pos (by omega)]
      refine ⟨by congr 1; omega, by omega⟩
    · cases h
theorem plc_seq {n k : Nat} {i : Int} (h : plc n i = some k) : seqIndex? i n = some k ∧ -(n : Int) ≤ i ∧ i < n := by
  obtain ⟨h1, h2⟩ := plc_ixN h
  obtain ⟨a, _, b, c⟩ := L2.ixN_seq h1
  exact ⟨a, b, c⟩
end

section
variable {X : Cx} {W : WX} {P : Nat → Bool} {pos apos cpos : Pos} {st : Stmt} {rest a b : List Stmt} {e c tg iter o : Expr} {te : TE}
theorem lstAt_some {j : Nat} {en : Ev} {r : SR} {K : PySem.W.Frag} {mg : Str → Option Value} {D : Ends} {σ : L2.St} {H F : Hp} {fp : List Addr} (h : WS K mg W P D H F fp σ (lstAt j [] en r)) : ∃ ts, en.at j = some (.lst ts) ∧ WS K mg W P D H F fp σ r := by
  unfold lstAt at h
  cases hj : en.at j with
  | none => rw [hj] at h; exact h.elim
  | some t =>
    rw [hj] at h
    cases t with
    | lst ts => exact ⟨ts, rfl, h⟩
    | fz d => exact h.elim
    | dic k => exact h.elim
    | ins c f => exact h.elim
theorem updAt_nil {j : Nat} {u : OT → Option OT} {en e1 : Ev} (h : updAt j [] u en = some e1) : ∃ t t', en.at j = some t ∧ u t = some t' ∧ e1 = en.set j (some t') := by
  unfold updAt at h
  cases hj : en.at j with
  | none => rw [hj] at h; cases h
  | some t =>
    rw [hj] at h
    have h : (u t).map (fun t' => en.set j (some t')) = some e1 := by
      have : setAt en u t [] = u t := by cases t <;> rfl
      rw [← this]; exact h
    obtain ⟨t', h1, h2⟩ := Option.map_eq_some_iff.mp h
    exact ⟨t, t', rfl, h1, h2.symm⟩
theorem tyL {K : PySem.W.Frag} {H : Hp} {a : Addr} {vs : List V} (h : H a = some (.lst vs)) : tyV K "list" (.ref a) H := .inl ⟨rfl, _, SqL.of h⟩
/-- x.append(e) -/
theorem ps_appD {j : Nat} {x : IE} (hs : PS X st (tDrop (tBM X.K "list" rAppend (tVar j) (tCons te tNil)))) (hte : ∀ σ H Q, tDX X W (sem x).1 σ H Q → te σ H Q) : PS X st (tSX X W P (run1 (.app j [] x))) := by
  refine PS.imp hs fun D σ H h => ?_
  obtain ⟨F, en, fp, ss, h⟩ := h
  obtain ⟨ts0, hj, h⟩ := lstAt_some h
  obtain ⟨a0, vs0, g0, rest0, L0⟩ := ss.list hj
  refine ⟨.ref a0, L0.slot, tyL L0.obj, hte σ H _ (tD_st Stp.refl Pr.refl ss h fun v t H1 F1 fpe fpv e1 p h1 => ?_)⟩
  cases hu : updAt j [] (appO t) e1 with
  | none => rw [hu] at h1; exact h1.elim
  | some e2 =>
    rw [hu] at h1
    obtain ⟨u, u', k1, k2, rfl⟩ := updAt_nil hu
    cases u with
    | lst ts =>
      have k2 : (if ts.length < sizeMax then some (OT.lst (ts ++ [t])) else none) = some u' := k2
      split at k2
      · rename_i hlt
        cases k2
        obtain ⟨a, vs, g, rest, L⟩ := p.ss.list k1
        have ea : a = a0 := by have := L.slot; rw [L0.slot] at this; cases this; rfl
        subst ea
        have hl := L.its.length
        rw [sizeMax_eq] at hlt
        refine ⟨a, vs, v, rfl, rfl, L.obj, by omega, ?_⟩
        have hfg : ∀ b ∈ fpv, b ∉ g := fun b hb z => p.dis b hb ((L.all b).mpr (.inl (.inr z)))
        obtain ⟨fp', g1, g2⟩ := L.put p.ss (vs' := vs ++ [v]) (ts' := ts ++ [t]) (g' := g ++ fpv) (by rw [List.length_append]; show vs.length + 1 ≤ _; omega) (L.its.snoc p.val hfg) (fun z => by
          rcases List.mem_append.mp z with z | z
          · exact L.na z
          · exact p.dis a z ((L.all a).mpr (.inl (.inl rfl)))) (fun b hb z => by
          rcases List.mem_append.mp hb with q | q
          · exact L.dis b q z
          · exact p.dis b q ((L.all b).mpr (.inr z))) (fun b hb => by
          rcases List.mem_append.mp hb with q | q
          · exact p.ss.own b ((L.all b).mpr (.inl (.inr q)))
          · exact p.own b q)
        refine h1 σ _ F1 fp' ((p.st.trans L.stp).sub fun b hb => ?_) g1 Pr.refl
        rcases g2 b hb with (z | z) | z
        · exact List.mem_append_right _ ((L.all b).mpr (.inl (.inl z)))
        · rcases List.mem_append.mp z with z | z
          · exact List.mem_append_right _ ((L.all b).mpr (.inl (.inr z)))
          · exact List.mem_append_left _ z
        · exact List.mem_append_right _ ((L.all b).mpr (.inr z))
      · cases k2
    | _ => cases k2
/-- x.extend(e), e a list -/
theorem ps_extD {j : Nat} {x : IE} (hs : PS X st (tDrop (tBM X.K "list" rExtend (tVar j) (tCons te tNil)))) (hte : ∀ σ H Q, tDX X W (sem x).1 σ H Q → te σ H Q) : PS X st (tSX X W P (run1 (.ext j [] x))) := by
  refine PS.imp hs fun D σ H h => ?_
  obtain ⟨F, en, fp, ss, h⟩ := h
  obtain ⟨ts0, hj, h⟩ := lstAt_some h
  obtain ⟨a0, vs0, g0, rest0, L0⟩ := ss.list hj
  refine ⟨.ref a0, L0.slot, tyL L0.obj, hte σ H _ (tD_st Stp.refl Pr.refl ss h fun v t H1 F1 fpe fpv e1 p h1 => ?_)⟩
  obtain ⟨q1, q2, q3⟩ := p.frz
  have h1 : WS X.K X.mg W P D H F fp σ (extK t.view fun ds => ofO (updAt j [] (extO ds) e1)) := h1
  generalize t.view = d at q3 h1
  cases d with
  | lst ds =>
    have h1 : WS X.K X.mg W P D H F fp σ (ofO (updAt j [] (extO ds) e1)) := h1
    cases hu : updAt j [] (extO ds) e1 with
    | none => rw [hu] at h1; exact h1.elim
    | some e2 =>
      rw [hu] at h1
      obtain ⟨u, u', k1, k2, rfl⟩ := updAt_nil hu
      cases u with
      | lst ts =>
        have k2 : (if ts.length + ds.length ≤ sizeMax then some (OT.lst (ts ++ ds.map .fz)) else none) = some u' := k2
        split at k2
        · rename_i hlt
          cases k2
          obtain ⟨a, vs, g, rest, L⟩ := q2.list k1
          have ea : a = a0 := by have := L.slot; rw [L0.slot] at this; cases this; rfl
          subst ea
          cases q3 with
          | lst hb hz rb =>
            rename_i bb ws
            have hl := L.its.length
            have hl2 := rb.length
            rw [sizeMax_eq] at hlt
            refine ⟨a, bb, vs, ws, rfl, rfl, L.obj, q2.le _ _ hb, by omega, ?_⟩
            obtain ⟨fp', g1, g2⟩ := L.put q2 (vs' := vs ++ ws) (ts' := ts ++ ds.map .fz) (g' := g) (by rw [List.length_append]; omega) (L.its.append (OTRs.of_fz rb)) L.na L.dis (fun b hb => q2.own b ((L.all b).mpr (.inl (.inr hb))))
            refine h1 σ _ _ fp' ((q1.trans (by simpa using L.stp (gp := []))).sub fun b hb => ?_) g1 Pr.refl
            exact (L.all b).mpr (g2 b hb)
        · cases k2
      | _ => cases k2
  | _ => exact False.elim h1

/-! ### stores -/
theorem keyD_inj {k k' : Key} (h : keyD k = keyD k') : k = k' := by
  cases k with
  | inl i =>
    cases k' with
    | inl j => cases h; rfl
    | inr z => cases h
  | inr z =>
    cases k' with
    | inl j => cases h
    | inr z' =>
      have h : z.cps.toList = z'.cps.toList := by injection h
      have : z = z' := by
        cases z; cases z'
        simpa using h
      rw [this]
theorem hasK {K : PySem.W.Frag} {mg : Str → Option Value} {F : Hp} {k : Key} : ∀ {kvs : List (Key × V)} {ds : List (Rx.D × Rx.D)}, DRk K mg F kvs ds → (kvs.any fun kv => decide (kv.1 = k)) = hasD ds (keyD k)
  | _, _, .nil => rfl
  | _, _, .cons (k := k') ok r rs => by
    unfold hasD
    rw [List.any_cons, List.any_cons, hasK rs]
    congr 1
    by_cases h : k' = k
    · subst h; simp
    · have h2 : ¬ keyD k' = keyD k := fun z => h (keyD_inj z)
      simp [h, h2]
theorem mapK {K : PySem.W.Frag} {mg : Str → Option Value} {F : Hp} {k : Key} {v : V} {d : Rx.D} (rd : DR K mg F v d) : ∀ {kvs : List (Key × V)} {ds : List (Rx.D × Rx.D)}, DRk K mg F kvs ds →
    DRk K mg F (kvs.map fun kv => if kv.1 = k then (kv.1, v) else kv) (ds.map fun p => if p.1 = keyD k then (keyD k, d) else p)
  | _, _, .nil => .nil
  | _, _, .cons (k := k') ok r rs => by
    rw [List.map_cons, List.map_cons]
    by_cases h : k' = k
    · subst h
      simp only [if_true]
      exact .cons ok rd (mapK rd rs)
    · have h2 : ¬ keyD k' = keyD k := fun z => h (keyD_inj z)
      simp only [if_neg h, if_neg h2]
      exact .cons ok r (mapK rd rs)
theorem snocK {K : PySem.W.Frag} {mg : Str → Option Value} {F : Hp} {k : Key} {v : V} {d : Rx.D} (ok : keyOkS k) (rd : DR K mg F v d) : ∀ {kvs : List (Key × V)} {ds : List (Rx.D × Rx.D)}, DRk K mg F kvs ds → DRk K mg F (kvs ++ [(k, v)]) (ds ++ [(keyD k, d)])
  | _, _, .nil => .cons ok rd .nil
  | _, _, .cons ok' r rs => .cons ok' r (snocK ok rd rs)
theorem putK_ok {K : PySem.W.Frag} {mg : Str → Option Value} {F : Hp} {k : Key} {v : V} {d : Rx.D} {kvs : List (Key × V)} {ds : List (Rx.D × Rx.D)} (ok : keyOkS k) (rd : DR K mg F v d) (r : DRk K mg F kvs ds) : DRk K mg F (putK kvs k v) (putD ds (keyD k) d) := by
  unfold putK putD
  rw [hasK r]
  cases hasD ds (keyD k) with
  | true => exact mapK rd r
  | false => exact snocK ok rd r
theorem DRk.length {K : PySem.W.Frag} {mg : Str → Option Value} {F : Hp} : ∀ {kvs : List (Key × V)} {ds : List (Rx.D × Rx.D)}, DRk K mg F kvs ds → kvs.length = ds.length
  | _, _, .nil => rfl
  | _, _, .cons _ _ r => by simp [DRk.length r]
/-- a key -/
theorem key_of_DR {K : PySem.W.Frag} {mg : Str → Option Value} {F : Hp} {v : V} {d : Rx.D} (h : DR K mg F v d) (hk : (∃ i, d = .int i) ∨ ∃ s, d = .str s) : ∃ k, v = kV k ∧ d = keyD k ∧ keyOkS k := by
  rcases hk with ⟨i, rfl⟩ | ⟨s, rfl⟩
  · cases h; exact ⟨.inl i, rfl, rfl, trivial⟩
  · cases h with
    | str hl hc => exact ⟨.inr (strOf s), rfl, rfl, by simpa [strOf, Str.length] using hl, by simpa [strOf] using hc⟩
/-- o[i] = v: a list, or a dict with number or text keys -/
def rStoD (K : PySem.W.Frag) : V → V → V → Hp → (Hp → Prop) → Prop := fun o i v H Q => rSetL o i v H Q ∨ ∃ a kvs k, o = .ref a ∧ H a = some (.dK kvs) ∧ i = kV k ∧ kvs.length < sizeLine ∧ Q (upd H a (.dK (putK kvs k v)))
theorem set_both (hu : X.A.units + 1 < cLine) : PSet X (rStoD X.K) := by
  intro pins s σ H o i v ov iv u Q I ro ri rv h
  rcases h with h | ⟨a, kvs, k, rfl, hd, rfl, hl, q⟩
  · exact set_list pins s σ H o i v ov iv u Q I ro ri rv h
  · obtain rfl : ov = Value.ref a := ro
    exact d_setItem hu I (DPut.k hd hl) ri rv fun s' I' => ⟨_, I', q⟩
end
/-! an owned dict in a slot -/
section
variable {K : PySem.W.Frag} {mg : Str → Option Value} {W : WX} {σ σ0 : L2.St} {H F : Hp} {fp : List Addr} {e : Ev}
theorem SS.dict {j : Nat} {ds : List (D × D)} (ss : SS K mg H F σ e fp) (hj : e.at j = some (.dic ds)) : ∃ a kvs rest, σ[j]? = some (some (.ref a)) ∧ H a = some (.dK kvs) ∧ DRk K mg F kvs ds ∧ EvR K mg H F σ (e.set j none) rest ∧ (∀ b, b ∈ fp ↔ b = a ∨ b ∈ rest) ∧ a ∉ rest := by
  obtain ⟨v, g, rest, h1, h2, h3, h4, h5⟩ := ss.env.take hj
  cases h2 with
  | dK hd r => exact ⟨_, _, rest, h1, hd, r, h3, fun b => by rw [h4]; simp, h5 _ List.mem_cons_self⟩
theorem SS.putDict {j : Nat} {ds' : List (D × D)} {a : Addr} {kvs' : List (Key × V)} {rest : List Addr} (ss : SS K mg H F σ e fp) (hs : σ[j]? = some (some (.ref a))) (he : EvR K mg H F σ (e.set j none) rest) (ha : ∀ b, b ∈ fp ↔ b = a ∨ b ∈ rest) (hn : a ∉ rest)
    (r : DRk K mg F kvs' ds') : ∃ fp', SS K mg (upd H a (.dK kvs')) F σ (e.set j (some (.dic ds'))) fp' ∧ ∀ b ∈ fp', b ∈ fp := by
  have na : F a = none := ss.own a ((ha a).mpr (.inl rfl))
  have k : ∀ b ∈ rest, ∀ o, H b = some o → upd H a (.dK kvs') b = some o := fun b hb o q => by
    rw [upd_ne (fun z => hn (by rw [← z]; exact hb))]; exact q
  have r2 : OTR K mg (upd H a (.dK kvs')) F (.ref a) (.dic ds') [a] := .dK upd_same r
  obtain ⟨fp', h1, h2⟩ := EvR.put (he.keep (Same.refl _) k) hs r2 fun b hb => by
    have : b = a := by simpa using hb
    rw [this]; exact hn
  rw [List.set_set] at h1
  have h3 : ∀ b ∈ fp', b ∈ fp := fun b hb => (ha b).mpr ((h2 b hb).imp (fun z => by simpa using z) id)
  refine ⟨fp', ⟨fun b o q => ?_, h1, fun b hb => ss.own b (h3 b hb)⟩, h3⟩
  rw [upd_ne (fun z => by rw [z, na] at q; cases q)]; exact ss.le b o q
end
section
variable {X : Cx} {W : WX} {P : Nat → Bool} {pos apos cpos : Pos} {st : Stmt} {rest a b : List Stmt} {e c tg iter o : Expr} {te ti : TE}
/-- x[k] = e -/
theorem ps_stoD {j : Nat} {xk x : IE} (hs : PS X st (tAsg te (gSub (tVar j) (tOX X W xk (sem xk).1) (rStoD X.K)))) (hte : ∀ σ H Q, tDX X W (sem x).1 σ H Q → te σ H Q) : PS X st (tSX X W P (run1 (.sto j [] xk x))) := by
  refine PS.imp hs fun D σ H h => ?_
  obtain ⟨F, en, fp, ss, h⟩ := h
  have h : WS X.K X.mg W P D H F fp σ (((sem x).1 en).st fun t e1 => ((M.bind (M.get j) fun _ => M.bind (opd xk (sem xk).1) fun r => fin xk r) e1).st fun d e2 => ofO (updAt j [] (stoO d t) e2)) := h
  refine hte σ H _ (tD_st Stp.refl Pr.refl ss h fun v t H1 F1 fpe fpv e1 p h1 => ?_)
  cases hj : e1.at j with
  | none => simp only [M.bind_app, M.get, hj] at h1; exact h1.elim
  | some t0 =>
    have h1 : WS X.K X.mg W P D H F fp σ ((opd xk (sem xk).1 e1).st fun r e2 => (fin xk r e2).st fun d e3 => ofO (updAt j [] (stoO d t) e3)) := by
      simp only [M.bind_app, M.get, hj, R.bind] at h1
      cases hm : opd xk (sem xk).1 e1 with
      | bad => rw [hm] at h1; exact h1
      | exn x1 e2 => rw [hm] at h1; exact h1
      | ok r e2 => rw [hm] at h1; exact h1
    obtain ⟨o, _, ho, _, _⟩ := p.ss.env.at hj
    refine ⟨o, ho, opd_st p.st Pr.refl p.ss h1 fun i H2 F2 fp2 r e2 st2 ss2 oh h2 => ?_⟩
    obtain ⟨k1, k2, k3⟩ := st2.held p.val.there p.dis p.own
    have val2 : OTR X.K X.mg H2 F2 v t fpv := p.val.keep st2.fz k1
    have st : Stp H F fp H2 F2 (fpv ++ fp2) := p.st.trans st2.frameL
    -- the key's data
    have hk : ∃ d, PR X.K X.mg H2 F2 i d ∧ WS X.K X.mg W P D H F fp σ (ofO (updAt j [] (stoO d t) e2)) := by
      have q : WP X.K X.mg W σ H2 F2 fp2 ((fin xk r e2).bind fun d e3 => R.ok (d, e3) e3) (fun q _ => WS X.K X.mg W P D H F fp σ (ofO (updAt j [] (stoO q.1 t) q.2))) := by
        rcases fin_state (x := xk) (r := r) (en := e2) with z | ⟨d, z⟩
        · rw [z] at h2; exact h2.elim
        · rw [z] at h2 ⊢; exact h2
      obtain ⟨d, p1, p2⟩ := fin_use ss2 oh q
      exact ⟨d, p1, p2⟩
    obtain ⟨d, pd, h3⟩ := hk
    cases hu : updAt j [] (stoO d t) e2 with
    | none => rw [hu] at h3; exact h3.elim
    | some e3 =>
      rw [hu] at h3
      obtain ⟨u, u', a1, a2, rfl⟩ := updAt_nil hu
      cases u with
      | lst ts =>
        cases d with
        | int n =>
          have a2 : (plc ts.length n).map (fun m => OT.lst (ts.set m t)) = some u' := a2
          obtain ⟨m, b1, b2⟩ := Option.map_eq_some_iff.mp a2
          subst b2
          obtain ⟨a, vs, g, rest, L⟩ := ss2.list a1
          have ea : o = .ref a := by have := L.slot; rw [ho] at this; cases this; rfl
          subst ea
          have ei : i = .int n := by
            have q := pd.all ss2.le
            cases q; rfl
          subst ei
          have hl := L.its.length
          have hfg : ∀ b ∈ fpv, b ∉ g := fun b hb z => k3 b hb ((L.all b).mpr (.inl (.inr z)))
          obtain ⟨g', c1, c2⟩ := L.its.set m val2 hfg
          refine .inl ⟨a, vs, n, m, rfl, rfl, L.obj, by rw [hl]; exact (plc_ixN b1).1, ?_⟩
          obtain ⟨fp', g1, g2⟩ := L.put ss2 (vs' := vs.set m v) (ts' := ts.set m t) (g' := g') (by rw [List.length_set]; exact L.few) c1 (fun z => by
            rcases c2 a z with z | z
            · exact k3 a z ((L.all a).mpr (.inl (.inl rfl)))
            · exact L.na z) (fun b hb z => by
            rcases c2 b hb with q | q
            · exact k3 b q ((L.all b).mpr (.inr z))
            · exact L.dis b q z) (fun b hb => by
            rcases c2 b hb with q | q
            · exact k2 b q
            · exact ss2.own b ((L.all b).mpr (.inl (.inr q))))
          refine h3 σ _ F2 fp' ((st.trans L.stp).sub fun b hb => ?_) g1 Pr.refl
          rcases g2 b hb with (z | z) | z
          · exact List.mem_append_right _ ((L.all b).mpr (.inl (.inl z)))
          · rcases c2 b z with z | z
            · exact List.mem_append_left _ z
            · exact List.mem_append_right _ ((L.all b).mpr (.inl (.inr z)))
          · exact List.mem_append_right _ ((L.all b).mpr (.inr z))
        | _ => cases a2
      | dic ds =>
        cases t with
        | fz vd =>
          have a2 : (if isKey d = true ∧ ds.length < sizeMax then some (OT.dic (putD ds d vd)) else none) = some u' := a2
          split at a2
          · rename_i hc
            cases a2
            obtain ⟨a, kvs, rest, b1, b2, b3, b4, b5, b6⟩ := ss2.dict a1
            have ea : o = .ref a := by rw [ho] at b1; cases b1; rfl
            subst ea
            have hkd : (∃ n, d = .int n) ∨ ∃ s, d = .str s := by
              cases d with
              | int n => exact .inl ⟨n, rfl⟩
              | str s => exact .inr ⟨s, rfl⟩
              | _ => exact absurd hc.1 (by simp [isKey])
            have pdF : DR X.K X.mg F2 i d := by
              rcases hkd with ⟨n, rfl⟩ | ⟨s, rfl⟩
              · cases pd with
                | fz q => exact q
              · cases pd with
                | fz q => exact q
            obtain ⟨k, rfl, rfl, ok⟩ := key_of_DR pdF hkd
            cases val2 with
            | fz rv =>
              obtain ⟨fp', g1, g2⟩ := ss2.putDict b1 b4 b5 b6 (putK_ok ok rv b3)
              have hl := b3.length
              refine .inr ⟨a, kvs, k, rfl, b2, rfl, by have := hc.2; rw [sizeMax_eq] at this; omega, ?_⟩
              have st3 : Stp H F fp (upd H2 a (.dK (putK kvs k v))) F2 fp' := (st.trans (Stp.wr (List.mem_append_right _ ((b5 a).mpr (.inl rfl))))).sub fun b hb => List.mem_append_right _ (g2 b hb)
              exact h3 σ _ F2 fp' st3 g1 Pr.refl
          · cases a2
        | _ => cases a2
      | fz _ => cases a2
      | ins _ _ => cases a2
end
end Rx
end

section
/-! Rx, part 11: operations on values. -/
section
set_option maxHeartbeats 4000000
namespace L2
open PySem PySem.Spec PyProof.Rows
theorem tuple_mul1W (l : Addr) (items : Array Value) (n : Nat) (dd : Option Addr) (sl : Array (Option Value)) (u : Tok) :
    Meets (Builtin.«tuple.__mul__» ⟨[.ref l, .int 1 u], []⟩) (fun _ R s => s.heap.get? l = some { cls := .type "tuple", dict := dd, data := .seq items n, slots := sl } ∧
      R (.ok (.ret (Value.ref l))) s) :=
  .of_wp fun prog w A R s h => by
    obtain ⟨hp, g, d, tk, os⟩ := s
    obtain ⟨hl, h⟩ := h
    have f1 := AutoSeq1.idx_int
    wp_walk using wpAny_loadPart' hl
    all_goals first | exact ⟨_, rfl, h⟩ | skip
def rRep1 (K : PySem.W.Frag) : R2 := fun x y H Q => ∃ l xs, x = .ref l ∧ y = .int 1 ∧ SqT K H l xs ∧ Q (.ref l) H
section
variable {X : Cx}
theorem op_rep1 : OpR X (binaryOp .Mult) (rRep1 X.K) := by
  intro pins s σ H x y v u Q I rx ry h
  obtain ⟨l, xs, rfl, rfl, hT, q⟩ := h
  cases rx
  obtain ⟨t, rfl⟩ := ry
  obtain ⟨its, r, ⟨⟨cls, dd, data, sl⟩, ho, hc, n, hd⟩, hs⟩ := I.tuple hT
  simp only at hc hd
  subst hc hd
  refine wpAny_binaryOp_repeat_ref (T := "tuple") (U := "int") (by decide) ⟨_, ho, rfl⟩ (fun s' => typeIs_int s' 1 t) noFill_tuple_mul F.fills_int_mul F.slot_int_rmul repeat_tuple F.slot_int_index.lookup
    (call_meets F.slot_int_rmul (typeIs_int s 1 t) F.entry_int_rmul (F.args_int_rmul_2 _ _) (int_rmul_tuple 1 t l its.toArray n dd sl)
      ⟨ho, rfl, ⟨_, ho, rfl⟩, call_meets F.slot_tuple_mul ⟨_, ho, rfl⟩ F.entry_tuple_mul (F.args_tuple_mul_2 _ _) (tuple_mul1W l its.toArray n dd sl t) ⟨ho, ?_⟩⟩)
  exact ⟨.ref l, H, I, rfl, q⟩
end
end L2
end
namespace Rx
open PySem PySem.Spec PyProof.Rows L2

section
variable {X : Cx} {mg : Str → Option Value}
theorem same_up {H : Hp} {p : Addr} {o : HO} (h : H p = none) : Same H (upd H p o) := fun b x e => by
  rw [upd_ne (ne_of_none e h)]
  exact e
theorem DRs.app {K : PySem.W.Frag} {mg : Str → Option Value} {F : Hp} {ws : List V} {es : List D} (r2 : DRs K mg F ws es) : ∀ {vs : List V} {ds : List D}, DRs K mg F vs ds → DRs K mg F (vs ++ ws) (ds ++ es)
  | _, _, .nil => r2
  | _, _, .cons h r => .cons h (DRs.app r2 r)
theorem strOf_app (x y : List Nat) : strOf x ++ strOf y = strOf (x ++ y) := by
  show (⟨x.toArray ++ y.toArray⟩ : Str) = ⟨(x ++ y).toArray⟩
  simp
theorem strOf_len (x : List Nat) : (strOf x).length = x.length := rfl
theorem OpR.mk2 {f : Value → Value → Sem Value} {g : D → D → Option OT} {r : R2} (ho : OpR X f r) (h : ∀ F H x y d1 d2 t Q, Same F H → PR X.K X.mg H F x d1 → PR X.K X.mg H F y d2 → DR X.K X.mg H x d1 → DR X.K X.mg H y d2 → g d1 d2 = some t → FinP X.K X.mg H F t Q → r x y H Q) : OpD X f g := by
  intro pins s σ H x y v u Q I rx ry q
  obtain ⟨F, d1, d2, t, le, p1, p2, e, q⟩ := q
  exact ho pins s σ H x y v u Q I rx ry (h F H x y d1 d2 t Q le p1 p2 (p1.all le) (p2.all le) e q)
/-- by cases on the operands: each case has its own rule -/
theorem OpD.cases {f : Value → Value → Sem Value} {g : D → D → Option OT} (h : ∀ d1 d2 t, g d1 d2 = some t → ∃ r, OpR X f r ∧ ∀ F H x y Q, Same F H → PR X.K X.mg H F x d1 → PR X.K X.mg H F y d2 → DR X.K X.mg H x d1 → DR X.K X.mg H y d2 → FinP X.K X.mg H F t Q → r x y H Q) : OpD X f g := by
  intro pins s σ H x y v u Q I rx ry q
  obtain ⟨F, d1, d2, t, le, p1, p2, e, q⟩ := q
  obtain ⟨r, ho, k⟩ := h d1 d2 t e
  exact ho pins s σ H x y v u Q I rx ry (k F H x y Q le p1 p2 (p1.all le) (p2.all le) q)
theorem FinP.int {F H : Hp} {i : Int} {Q : VK} (q : FinP X.K X.mg H F (.fz (.int i)) Q) (le : Same F H) : Q (.int i) H := q.same le (.int i)
theorem FinP.bl {F H : Hp} {i : Bool} {Q : VK} (q : FinP X.K X.mg H F (.fz (.bl i)) Q) (le : Same F H) : Q (.bl i) H := q.same le (.bl i)
theorem PR.frz {K : PySem.W.Frag} {mg : Str → Option Value} {H F : Hp} {a : Addr} {xs : List D} (p : PR K mg H F (.ref a) (.tup xs)) : DR K mg F (.ref a) (.tup xs) := by
  cases p with
  | fz h => exact h
theorem PR.items {K : PySem.W.Frag} {mg : Str → Option Value} {H F : Hp} {v : V} {xs : List D} (le : Same F H) (p : PR K mg H F v (.lst xs)) : ∃ a vs, v = .ref a ∧ H a = some (.lst vs) ∧ vs.length ≤ sizeLine ∧ DRs K mg F vs xs := by
  cases p with
  | fz h => cases h with
    | lst h1 h2 h3 => exact ⟨_, _, rfl, le _ _ h1, h2, h3⟩
  | lst h1 h2 h3 => exact ⟨_, _, rfl, h1, h2, h3⟩
theorem PR.tups {K : PySem.W.Frag} {mg : Str → Option Value} {H F : Hp} {v : V} {xs : List D} (le : Same F H) (p : PR K mg H F v (.tup xs)) : ∃ a vs, v = .ref a ∧ SqT K H a vs ∧ vs.length ≤ sizeLine ∧ DRs K mg F vs xs ∧ DR K mg F (.ref a) (.tup xs) := by
  cases p with
  | fz h => cases h with
    | tup h1 h2 h3 => exact ⟨_, _, rfl, Same.seqT le h1, h2, h3, .tup h1 h2 h3⟩
/-! ### arithmetic -/
theorem od_add : OpD X (binaryOp .Add) addD := OpD.cases fun d1 d2 t e => by
  cases d1 <;> cases d2 <;> first | (cases e; done) | skip
  case int.int i j =>
    cases e
    refine ⟨_, op_add, fun F H x y Q le p1 p2 r1 r2 q => ?_⟩
    cases r1; cases r2
    exact ⟨_, _, rfl, rfl, q.int le⟩
  case str.str a b =>
    unfold addD at e
    by_cases hz : a.length + b.length ≤ sizeMax
    · simp only [if_pos hz, Option.some.injEq] at e
      subst e
      refine ⟨_, op_add_str, fun F H x y Q le p1 p2 r1 r2 q => ?_⟩
      cases r1 with
      | str l1 c1 =>
        cases r2 with
        | str l2 c2 =>
          refine ⟨_, _, rfl, rfl, hz, ?_⟩
          rw [strOf_app]
          exact q.same le (.str (by rw [List.length_append]; exact hz) fun c hc => (List.mem_append.mp hc).elim (c1 c) (c2 c))
    · simp only [if_neg hz, reduceCtorEq] at e
  case lst.lst a b =>
    unfold addD at e
    by_cases hz : a.length + b.length ≤ sizeMax
    · simp only [if_pos hz, Option.some.injEq] at e
      subst e
      refine ⟨_, op_cat, fun F H x y Q le p1 p2 r1 r2 q => ?_⟩
      obtain ⟨l1, v1, rfl, h1, z1, s1⟩ := p1.items le
      obtain ⟨l2, v2, rfl, h2, z2, s2⟩ := p2.items le
      have hl : v1.length + v2.length ≤ sizeLine := by
        rw [s1.length, s2.length]; exact hz
      exact ⟨l1, l2, v1, v2, rfl, rfl, h1, h2, hl, fun p hp => q.newL le hp (s2.app s1) (by rw [List.length_append]; exact hl)⟩
    · simp only [if_neg hz, reduceCtorEq] at e
  case tup.tup a b =>
    unfold addD at e
    by_cases hz : a.length + b.length ≤ sizeMax
    · simp only [if_pos hz, Option.some.injEq] at e
      subst e
      refine ⟨_, op_catA, fun F H x y Q le p1 p2 r1 r2 q => ?_⟩
      obtain ⟨l1, v1, rfl, h1, z1, s1, f1⟩ := p1.tups le
      obtain ⟨l2, v2, rfl, h2, z2, s2, f2⟩ := p2.tups le
      have hl : v1.length + v2.length ≤ sizeLine := by
        rw [s1.length, s2.length]; exact hz
      refine ⟨l1, l2, v1, v2, rfl, rfl, h1, h2, hl, fun z => ?_, fun _ z => ?_, fun _ _ p hp => ?_⟩
      · subst z
        cases s1
        exact q.same le f2
      · subst z
        cases s2
        rw [List.append_nil] at q
        exact q.same le f1
      · refine q.new le hp (.tup (.inl (.inl upd_same)) (by rw [List.length_append]; exact hl) ?_)
        exact DRs.mono (same_up (Same.free le hp)) (s2.app s1)
    · simp only [if_neg hz, reduceCtorEq] at e
theorem od_sub : OpD X (binaryOp .Sub) subD := OpD.cases fun d1 d2 t e => by
  cases d1 <;> cases d2 <;> cases e
  refine ⟨_, op_sub, fun F H x y Q le p1 p2 r1 r2 q => ?_⟩
  cases r1; cases r2
  exact ⟨_, _, rfl, rfl, q.int le⟩
theorem DRs.repl {K : PySem.W.Frag} {mg : Str → Option Value} {F : Hp} {vs : List V} {ds : List D} (r : DRs K mg F vs ds) : ∀ n : Nat, DRs K mg F (List.replicate n vs).flatten (List.replicate n ds).flatten
  | 0 => .nil
  | n + 1 => by
    simp only [List.replicate_succ, List.flatten_cons]
    exact DRs.app (DRs.repl r n) r
theorem od_mul : OpD X (binaryOp .Mult) mulD := OpD.cases fun d1 d2 t e => by
  cases d1 <;> cases d2 <;> first | (cases e; done) | skip
  case int.int i j =>
    unfold mulD at e
    by_cases hz : i.natAbs < 18446744073709551616 ∨ j.natAbs < 18446744073709551616
    · simp only [if_pos hz, Option.some.injEq] at e
      subst e
      refine ⟨_, op_mul, fun F H x y Q le p1 p2 r1 r2 q => ?_⟩
      cases r1; cases r2
      exact ⟨_, _, rfl, rfl, hz.imp (fun h => by constructor <;> omega) (fun h => by constructor <;> omega), q.int le⟩
    · simp only [if_neg hz, reduceCtorEq] at e
  case lst.int xs k =>
    unfold mulD at e
    by_cases hz : -9223372036854775808 ≤ k ∧ k < 9223372036854775808 ∧ xs.length * k.toNat ≤ sizeMax
    · simp only [if_pos hz, Option.some.injEq] at e
      subst e
      refine ⟨_, op_rep, fun F H x y Q le p1 p2 r1 r2 q => ?_⟩
      obtain ⟨a, vs, rfl, h1, h2, h3⟩ := p1.items le
      cases r2
      have hl : vs.length = xs.length := by
        have : ∀ {vs : List V} {ds : List D}, DRs X.K X.mg F vs ds → vs.length = ds.length := fun {vs} => by
          induction vs with
          | nil => intro ds r; cases r; rfl
          | cons v vs ih => intro ds r; cases r with | cons a b => exact congrArg (· + 1) (ih b)
        exact this h3
      have hzz : vs.length * k.toNat ≤ sizeLine := by rw [hl]; exact hz.2.2
      refine ⟨a, k, vs, rfl, rfl, h1, by omega, by omega, hzz, fun p hp => q.newL le hp (h3.repl _) ?_⟩
      rw [PyProof.Rows.lm_len_rep_flat, Nat.mul_comm]; exact hzz
    · simp only [if_neg hz, reduceCtorEq] at e
  case tup.int xs k =>
    unfold mulD at e
    by_cases hk1 : k = 1
    · subst hk1
      simp only [if_true, Option.some.injEq] at e
      subst e
      refine ⟨_, op_rep1, fun F H x y Q le p1 p2 r1 r2 q => ?_⟩
      obtain ⟨a, vs, rfl, h1, h2, h3, h4⟩ := p1.tups le
      cases r2
      exact ⟨a, vs, rfl, rfl, h1, q.same le h4⟩
    simp only [if_neg hk1] at e
    by_cases hz : xs ≠ [] ∧ 2 ≤ k ∧ k ≤ 1000 ∧ xs.length ≤ 1000
    · simp only [if_pos hz, Option.some.injEq] at e
      subst e
      refine ⟨_, op_repT, fun F H x y Q le p1 p2 r1 r2 q => ?_⟩
      obtain ⟨a, vs, rfl, h1, h2, h3, _⟩ := p1.tups le
      cases r2
      have hl : vs.length = xs.length := by
        have : ∀ {vs : List V} {ds : List D}, DRs X.K X.mg F vs ds → vs.length = ds.length := fun {vs} => by
          induction vs with
          | nil => intro ds r; cases r; rfl
          | cons v vs ih => intro ds r; cases r with | cons a b => exact congrArg (· + 1) (ih b)
        exact this h3
      have hzz : (List.replicate k.toNat vs).flatten.length ≤ sizeLine := by
        rw [PyProof.Rows.lm_len_rep_flat, sizeLine_eq, hl]
        have a1 : k.toNat * xs.length ≤ 1000 * 1000 := Nat.mul_le_mul (by omega) hz.2.2.2
        omega
      refine ⟨a, k, vs, rfl, rfl, h1, fun z => ?_, hz.2.1, hz.2.2.1, by rw [hl]; exact hz.2.2.2, fun p hp => q.new le hp (.tup (.inl (.inl upd_same)) hzz (DRs.mono (same_up (Same.free le hp)) (h3.repl _)))⟩
      have : xs.length = 0 := by rw [← hl, z]; rfl
      exact hz.1 (List.eq_nil_of_length_eq_zero this)
    · simp only [if_neg hz, reduceCtorEq] at e
theorem od_fdiv : OpD X (binaryOp .FloorDiv) fdivD := OpD.cases fun d1 d2 t e => by
  cases d1 <;> cases d2 <;> first | (cases e; done) | skip
  rename_i i j
  unfold fdivD at e
  by_cases hz : 0 < j ∧ j < 1073741824
  · simp only [if_pos hz, Option.some.injEq] at e
    subst e
    refine ⟨_, op_fdiv, fun F H x y Q le p1 p2 r1 r2 q => ?_⟩
    cases r1; cases r2
    exact ⟨_, _, rfl, rfl, hz, q.int le⟩
  · simp only [if_neg hz, reduceCtorEq] at e
theorem od_mod : OpD X (binaryOp .Mod) modD := OpD.cases fun d1 d2 t e => by
  cases d1 <;> cases d2 <;> first | (cases e; done) | skip
  rename_i i j
  unfold modD at e
  by_cases hz : 0 < j
  · simp only [if_pos hz, Option.some.injEq] at e
    subst e
    refine ⟨_, op_mod, fun F H x y Q le p1 p2 r1 r2 q => ?_⟩
    cases r1; cases r2
    exact ⟨_, _, rfl, rfl, hz, q.int le⟩
  · simp only [if_neg hz, reduceCtorEq] at e
theorem od_pow : OpD X (binaryOp .Pow) powD := OpD.cases fun d1 d2 t e => by
  cases d1 <;> cases d2 <;> first | (cases e; done) | skip
  rename_i i j
  unfold powD at e
  by_cases hz : 0 ≤ j ∧ j ≤ 1000000 ∧ i.natAbs < 2 ^ 64
  · simp only [if_pos hz, Option.some.injEq] at e
    subst e
    refine ⟨_, op_pow, fun F H x y Q le p1 p2 r1 r2 q => ?_⟩
    cases r1; cases r2
    exact ⟨_, _, rfl, rfl, hz, q.int le⟩
  · simp only [if_neg hz, reduceCtorEq] at e
/-! ### comparisons -/
theorem od_lt : OpD X (compareOp .Lt) (bl2 ltD) := OpD.cases fun d1 d2 t e => by
  cases d1 <;> cases d2 <;> cases e
  refine ⟨_, op_lt, fun F H x y Q le p1 p2 r1 r2 q => ?_⟩
  cases r1; cases r2
  exact ⟨_, _, rfl, rfl, q.bl le⟩
theorem od_le : OpD X (compareOp .LtE) (bl2 leD) := OpD.cases fun d1 d2 t e => by
  cases d1 <;> cases d2 <;> cases e
  refine ⟨_, op_le, fun F H x y Q le p1 p2 r1 r2 q => ?_⟩
  cases r1; cases r2
  exact ⟨_, _, rfl, rfl, q.bl le⟩
theorem od_gt : OpD X (compareOp .Gt) (bl2 gtD) := OpD.cases fun d1 d2 t e => by
  cases d1 <;> cases d2 <;> cases e
  refine ⟨_, op_gt, fun F H x y Q le p1 p2 r1 r2 q => ?_⟩
  cases r1; cases r2
  exact ⟨_, _, rfl, rfl, q.bl le⟩
theorem od_ge : OpD X (compareOp .GtE) (bl2 geD) := OpD.cases fun d1 d2 t e => by
  cases d1 <;> cases d2 <;> cases e
  refine ⟨_, op_ge, fun F H x y Q le p1 p2 r1 r2 q => ?_⟩
  cases r1; cases r2
  exact ⟨_, _, rfl, rfl, q.bl le⟩
end
/-! ### equality -/
mutual
def toPy : D → PyData
  | .non => .none
  | .bl b => .bool b
  | .int i => .int i
  | .str s => .str (strOf s)
  | .tup xs => .tuple (toPys xs)
  | .lst xs => .list (toPys xs)
  | _ => .none
def toPys : List D → List PyData
  | [] => []
  | x :: xs => toPy x :: toPys xs
end
theorem strOf_beq (x y : List Nat) : (strOf x == strOf y) = (x == y) := by
  rw [Bool.eq_iff_iff, beq_iff_eq, beq_iff_eq]
  constructor
  · intro h
    have : (strOf x).cps.toList = (strOf y).cps.toList := by rw [h]
    simpa [strOf] using this
  · intro h; rw [h]
mutual
theorem eqv_py : ∀ (n m : Nat) (a b : D), D.eqok n a = true → D.eqok m b = true → PyData.eqv (toPy a) (toPy b) = D.eqv a b
  | n, m, .non, b, _, h => by cases b <;> first | rfl | (cases m <;> cases h)
  | n, m, .bl x, b, _, h => by cases b <;> first | rfl | (cases m <;> cases h)
  | n, m, .int x, b, _, h => by cases b <;> first | rfl | (cases m <;> cases h)
  | n, m, .str x, b, _, h => by
    cases b <;> first | rfl | (cases m <;> cases h; done) | skip
    rename_i y
    simp only [toPy, PyData.eqv, D.eqv]
    exact strOf_beq x y
  | 0, m, .tup xs, b, h, _ => by cases h
  | 0, m, .lst xs, b, h, _ => by cases h
  | n + 1, 0, .tup xs, b, h, h2 => by cases b <;> first | rfl | cases h2
  | n + 1, 0, .lst xs, b, h, h2 => by cases b <;> first | rfl | cases h2
  | n + 1, m + 1, .tup xs, b, h, h2 => by
    cases b <;> first | rfl | (cases h2; done) | skip
    rename_i ys
    simp only [toPy, PyData.eqv, D.eqv]
    exact eqvs_py n m xs ys h h2
  | n + 1, m + 1, .lst xs, b, h, h2 => by
    cases b <;> first | rfl | (cases h2; done) | skip
    rename_i ys
    simp only [toPy, PyData.eqv, D.eqv]
    exact eqvs_py n m xs ys h h2
  | n, m, .lk xs, b, h, _ => by cases n <;> cases h
  | n, m, .dic xs, b, h, _ => by cases n <;> cases h
  | n, m, .ins _ _, b, h, _ => by cases n <;> cases h
  | n, m, .fn _, b, h, _ => by cases n <;> cases h
theorem eqvs_py : ∀ (n m : Nat) (xs ys : List D), D.eqoks n xs = true → D.eqoks m ys = true → PyData.eqvAll (toPys xs) (toPys ys) = D.eqvs xs ys
  | n, m, [], [], _, _ => rfl
  | n, m, [], _ :: _, _, _ => rfl
  | n, m, _ :: _, [], _, _ => rfl
  | n, m, x :: xs, y :: ys, h, h2 => by
    simp only [D.eqoks, Bool.and_eq_true] at h h2
    simp only [toPys, PyData.eqvAll, D.eqvs, eqv_py n m x y h.1 h2.1, eqvs_py n m xs ys h.2 h2.2]
end
mutual
theorem dp_of {K : PySem.W.Frag} {mg : Str → Option Value} {H : Hp} : ∀ (n : Nat) (d : D) (v : V), D.eqok n d = true → DR K mg H v d → Dp K H v (toPy d) ∧ (toPy d).canLay0 = true ∧ (toPy d).depth ≤ n
  | n, .non, v, h, r => by cases r; exact ⟨.non, rfl, Nat.zero_le _⟩
  | n, .bl b, v, h, r => by cases r; exact ⟨.bl b, rfl, Nat.zero_le _⟩
  | n, .int b, v, h, r => by cases r; exact ⟨.int b, rfl, Nat.zero_le _⟩
  | n, .str s, v, h, r => by
    cases r with
    | str l c =>
      refine ⟨.str _, ?_, Nat.zero_le _⟩
      simp only [toPy, PyData.canLay0, PyData.strOk]
      rw [Array.all_eq_true_iff_forall_mem]
      exact fun x hx => decide_eq_true (c x (by simpa [strOf] using hx))
  | 0, .tup xs, v, h, r => by cases h
  | 0, .lst xs, v, h, r => by cases h
  | n + 1, .tup xs, v, h, r => by
    cases r with
    | tup s l q =>
      obtain ⟨k1, k2, k3⟩ := dps_of n xs _ h q
      exact ⟨.tup s k1, by simp only [toPy, PyData.canLay0]; exact k2, by simp only [toPy, PyData.depth]; omega⟩
  | n + 1, .lst xs, v, h, r => by
    cases r with
    | lst s l q =>
      obtain ⟨k1, k2, k3⟩ := dps_of n xs _ h q
      exact ⟨.lst (.inl (.inl s)) k1, by simp only [toPy, PyData.canLay0]; exact k2, by simp only [toPy, PyData.depth]; omega⟩
  | n, .lk xs, _, h, _ => by cases n <;> cases h
  | n, .dic xs, _, h, _ => by cases n <;> cases h
  | n, .ins _ _, _, h, _ => by cases n <;> cases h
  | n, .fn _, _, h, _ => by cases n <;> cases h
theorem dps_of {K : PySem.W.Frag} {mg : Str → Option Value} {H : Hp} : ∀ (n : Nat) (ds : List D) (vs : List V), D.eqoks n ds = true → DRs K mg H vs ds → DpAll K H vs (toPys ds) ∧ PyData.canLayAll0 (toPys ds) = true ∧ PyData.depthAll (toPys ds) ≤ n
  | n, [], vs, h, r => by cases r; exact ⟨.nil, rfl, Nat.zero_le _⟩
  | n, d :: ds, vs, h, r => by
    cases r with
    | cons a b =>
      simp only [D.eqoks, Bool.and_eq_true] at h
      obtain ⟨k1, k2, k3⟩ := dp_of n d _ h.1 a
      obtain ⟨q1, q2, q3⟩ := dps_of n ds _ h.2 b
      refine ⟨.cons k1 q1, ?_, ?_⟩
      · simp only [toPys, PyData.canLayAll0, k2, q2, Bool.and_self]
      · simp only [toPys, PyData.depthAll]; omega
end
section
variable {X : Cx}
theorem shaped_of {K : PySem.W.Frag} {mg : Str → Option Value} {H : Hp} {n : Nat} {d : D} {v : V} (hn : n ≤ 64) (h : D.eqok n d = true) (r : DR K mg H v d) : Dp K H v (toPy d) ∧ SeqAt.shaped (toPy d) = true := by
  obtain ⟨k1, k2, k3⟩ := dp_of n d v h r
  exact ⟨k1, by unfold SeqAt.shaped; rw [k2, decide_eq_true (by omega)]; rfl⟩
theorem od_eq (hu : X.A.units + 64 < cLine) : OpD X (compareOp .Eq) (bl2 eqD) := OpD.cases fun d1 d2 t e => by
  unfold bl2 eqD at e
  by_cases hz : D.eqok 60 d1 = true ∧ D.eqok 60 d2 = true
  · rw [if_pos hz] at e
    cases e
    refine ⟨_, op_eqD hu, fun F H x y Q le p1 p2 r1 r2 q => ?_⟩
    obtain ⟨a1, a2⟩ := shaped_of (by omega) hz.1 r1
    obtain ⟨b1, b2⟩ := shaped_of (by omega) hz.2 r2
    refine ⟨_, _, a1, b1, a2, b2, ?_⟩
    rw [eqv_py 60 60 d1 d2 hz.1 hz.2]
    exact q.bl le
  · rw [if_neg hz] at e; cases e
theorem od_ne (hu : X.A.units + 64 < cLine) : OpD X (compareOp .NotEq) (bl2 neD) := OpD.cases fun d1 d2 t e => by
  unfold bl2 neD at e
  by_cases hz : D.eqok 60 d1 = true ∧ D.eqok 60 d2 = true
  · rw [if_pos hz] at e
    cases e
    refine ⟨_, op_neD hu, fun F H x y Q le p1 p2 r1 r2 q => ?_⟩
    obtain ⟨a1, a2⟩ := shaped_of (by omega) hz.1 r1
    obtain ⟨b1, b2⟩ := shaped_of (by omega) hz.2 r2
    refine ⟨_, _, a1, b1, a2, b2, ?_⟩
    rw [eqv_py 60 60 d1 d2 hz.1 hz.2]
    exact q.bl le
  · rw [if_neg hz] at e; cases e
/-! ### in -/
theorem any_py {a : D} (n m : Nat) (ha : D.eqok m a = true) : ∀ (xs : List D), D.eqoks n xs = true → (toPys xs).any (fun z => PyData.eqv z (toPy a)) = xs.any fun z => D.eqv z a
  | [], _ => rfl
  | x :: xs, h => by
    simp only [D.eqoks, Bool.and_eq_true] at h
    simp only [toPys, List.any_cons, eqv_py n m x a h.1 ha, any_py n m ha xs h.2]
def rInT (K : PySem.W.Frag) (b : Bool) : R2 := fun x y H Q => ∃ d ds, Dp K H x d ∧ Dp K H y (.tuple ds) ∧ SeqAt.shaped d = true ∧ SeqAt.shaped (.tuple ds) = true ∧ Q (.bl (b != (ds.any fun z => PyData.eqv z d))) H
theorem op_inT (hu : X.A.units + 65 < cLine) : OpR X (compareOp .In) (rInT X.K false) := by
  intro pins s σ H x y v u Q I rx ry h
  obtain ⟨d, ds, hd, he, sd, se, q⟩ := h
  obtain ⟨as, r1⟩ := Dp.reads I d x v hd rx
  obtain ⟨bs, r2⟩ := Dp.reads I (.tuple ds) y u he ry
  exact SeqAt.in_tuple_reads r2 r1 (SeqAt.canLay_of_shaped se) (SeqAt.canLay_of_shaped sd) (room_in_shaped sd hu) ⟨.bl _, H, I, rfl, by simpa using q⟩
theorem op_ninT (hu : X.A.units + 65 < cLine) : OpR X (compareOp .NotIn) (rInT X.K true) := by
  intro pins s σ H x y v u Q I rx ry h
  obtain ⟨d, ds, hd, he, sd, se, q⟩ := h
  obtain ⟨as, r1⟩ := Dp.reads I d x v hd rx
  obtain ⟨bs, r2⟩ := Dp.reads I (.tuple ds) y u he ry
  exact SeqAt.notIn_tuple_reads r2 r1 (SeqAt.canLay_of_shaped se) (SeqAt.canLay_of_shaped sd) (room_in_shaped sd hu) ⟨.bl _, H, I, rfl, by simpa using q⟩
theorem inSeq_some {a : D} {xs : List D} {k : Bool} (h : inSeq a xs = some k) : D.eqok 60 a = true ∧ D.eqoks 60 xs = true ∧ k = xs.any fun z => D.eqv z a := by
  unfold inSeq at h
  by_cases hz : D.eqok 60 a = true ∧ D.eqoks 60 xs = true
  · rw [if_pos hz] at h
    exact ⟨hz.1, hz.2, (Option.some.inj h).symm⟩
  · rw [if_neg hz] at h; cases h
theorem valK {K : PySem.W.Frag} {mg : Str → Option Value} {F : Hp} {k : Key} : ∀ {kvs : List (Key × V)} {ds : List (D × D)}, DRk K mg F kvs ds → (lookD ds (keyD k) = none ∧ valV kvs k = none) ∨ ∃ d v, lookD ds (keyD k) = some d ∧ valV kvs k = some v ∧ DR K mg F v d
  | _, _, .nil => .inl ⟨rfl, rfl⟩
  | _, _, .cons (k := k') (v := v) (d := d) ok r rs => by
    by_cases h : k' = k
    · subst h
      exact .inr ⟨d, v, by simp [lookD], by simp [valV], r⟩
    · have h2 : ¬ keyD k' = keyD k := fun z => h (keyD_inj z)
      rcases valK (k := k) rs with ⟨a, b⟩ | ⟨d, v, a, b, c⟩
      · exact .inl ⟨by simp [lookD, h2, a], by simpa [valV, h] using b⟩
      · exact .inr ⟨d, v, by simp [lookD, h2, a], by simpa [valV, h] using b, c⟩
theorem has_look : ∀ (ds : List (D × D)) (k : D), hasD ds k = (lookD ds k).isSome
  | [], _ => rfl
  | (a, v) :: r, k => by
    have ih := has_look r k
    unfold hasD at ih ⊢
    by_cases h : a = k
    · simp [lookD, h]
    · simp [lookD, h, ih]
theorem isKey_cases {d : D} (h : isKey d = true) : (∃ i, d = .int i) ∨ ∃ s, d = .str s := by
  cases d <;> first | exact .inl ⟨_, rfl⟩ | exact .inr ⟨_, rfl⟩ | cases h
theorem PR.dict {K : PySem.W.Frag} {mg : Str → Option Value} {H F : Hp} {v : V} {ds : List (D × D)} (le : Same F H) (p : PR K mg H F v (.dic ds)) : ∃ a kvs, v = .ref a ∧ H a = some (.dK kvs) ∧ DRk K mg F kvs ds := by
  cases p with
  | fz h => cases h with
    | dK h1 h2 => exact ⟨_, _, rfl, le _ _ h1, h2⟩
  | dK h1 h2 => exact ⟨_, _, rfl, h1, h2⟩
theorem dget {K : PySem.W.Frag} {mg : Str → Option Value} {H F : Hp} {v w : V} {ds : List (D × D)} {d : D} (le : Same F H) (p : PR K mg H F v (.dic ds)) (r : DR K mg H w d) (hk : isKey d = true) : ∃ a o, v = .ref a ∧ DGet H a w o ∧ ((lookD ds d = none ∧ o = none) ∨ ∃ d' v', lookD ds d = some d' ∧ o = some v' ∧ DR K mg F v' d') := by
  obtain ⟨a, kvs, rfl, h1, h2⟩ := p.dict le
  obtain ⟨k, rfl, rfl, ok⟩ := key_of_DR r (isKey_cases hk)
  exact ⟨a, _, rfl, .k h1, valK h2⟩
def rInK : R2 := fun x y H Q => ∃ a o, y = .ref a ∧ DGet H a x o ∧ Q (.bl o.isSome) H
def rNinK : R2 := fun x y H Q => ∃ a o, y = .ref a ∧ DGet H a x o ∧ Q (.bl (!o.isSome)) H
theorem op_inK {X : Cx} (hu : X.A.units + 65 < cLine) : OpR X (compareOp .In) rInK := by
  intro pins s σ H x y v u Q I rx ry h
  obtain ⟨a, o, rfl, g, q⟩ := h
  cases ry
  exact d_in (by omega) I g rx fun s' I' => ⟨.bl _, H, I', rfl, q⟩
theorem op_ninK {X : Cx} (hu : X.A.units + 65 < cLine) : OpR X (compareOp .NotIn) rNinK := by
  intro pins s σ H x y v u Q I rx ry h
  obtain ⟨a, o, rfl, g, q⟩ := h
  cases ry
  exact d_notIn (by omega) I g rx fun s' I' => ⟨.bl _, H, I', rfl, q⟩
theorem dec_same {a b : Prop} {i : Decidable a} {j : Decidable b} (h : a ↔ b) {p : Bool → Prop} (q : p (@decide b j)) : p (@decide a i) := by
  have e : @decide a i = @decide b j := by
    cases i with
    | isTrue x => cases j with
      | isTrue y => rfl
      | isFalse y => exact absurd (h.mp x) y
    | isFalse x => cases j with
      | isTrue y => exact absurd (h.mpr y) x
      | isFalse y => rfl
  rw [e]; exact q
theorem str_sign {K : PySem.W.Frag} {mg : Str → Option Value} {H : Hp} {x : V} {c : Nat} (r : DR K mg H x (.str [c])) : x = .str ⟨#[c]⟩ := by
  cases r with
  | str _ _ => rfl
theorem od_in (hu : X.A.units + 65 < cLine) : OpD X (compareOp .In) (bl2 inD) := OpD.cases fun d1 d2 t e => by
  cases hk : inD d1 d2 with
  | none => rw [bl2, hk] at e; cases e
  | some k =>
    rw [bl2, hk] at e; cases e
    cases d2 <;> first | (cases hk; done) | skip
    case lst xs =>
      obtain ⟨h1, h2, rfl⟩ := inSeq_some (show inSeq d1 xs = some k from hk)
      refine ⟨_, op_inD hu, fun F H x y Q le p1 p2 r1 r2 q => ?_⟩
      obtain ⟨a1, a2⟩ := shaped_of (by omega) h1 r1
      obtain ⟨b1, b2⟩ := shaped_of (n := 61) (d := .lst xs) (by omega) h2 r2
      refine ⟨_, _, a1, b1, a2, b2, ?_⟩
      rw [any_py 60 60 h1 xs h2]
      exact q.bl le
    case tup xs =>
      obtain ⟨h1, h2, rfl⟩ := inSeq_some (show inSeq d1 xs = some k from hk)
      refine ⟨_, op_inT hu, fun F H x y Q le p1 p2 r1 r2 q => ?_⟩
      obtain ⟨a1, a2⟩ := shaped_of (by omega) h1 r1
      obtain ⟨b1, b2⟩ := shaped_of (n := 61) (d := .tup xs) (by omega) h2 r2
      refine ⟨_, _, a1, b1, a2, b2, ?_⟩
      rw [any_py 60 60 h1 xs h2]
      simpa using q.bl le
    case str ys =>
      cases d1 <;> first | (cases hk; done) | skip
      rename_i cs
      match cs, hk with
      | [c], hk =>
        cases hk
        refine ⟨_, op_in_sign, fun F H x y Q le p1 p2 r1 r2 q => ?_⟩
        cases r2 with
        | str _ _ => exact ⟨c, _, str_sign r1, rfl, dec_same (by simp [strOf]) (p := fun k => Q (.bl k) H) (q.bl le)⟩
    case dic kvs =>
      have hk : (if isKey d1 = true then some (hasD kvs d1) else none) = some k := hk
      by_cases hz : isKey d1 = true
      · rw [if_pos hz] at hk; cases hk
        refine ⟨_, op_inK hu, fun F H x y Q le p1 p2 r1 r2 q => ?_⟩
        obtain ⟨a, o, rfl, g, h⟩ := dget le p2 r1 hz
        refine ⟨a, o, rfl, g, ?_⟩
        have e : o.isSome = hasD kvs d1 := by
          rw [has_look]
          rcases h with ⟨h1, rfl⟩ | ⟨d', v', h1, rfl, _⟩ <;> rw [h1] <;> rfl
        rw [e]
        exact q.bl le
      · rw [if_neg hz] at hk; cases hk
theorem od_nin (hu : X.A.units + 65 < cLine) : OpD X (compareOp .NotIn) (bl2 ninD) := OpD.cases fun d1 d2 t e => by
  unfold bl2 ninD at e
  cases hk : inD d1 d2 with
  | none => rw [hk] at e; cases e
  | some k =>
    rw [hk] at e; cases e
    cases d2 <;> first | (cases hk; done) | skip
    case lst xs =>
      obtain ⟨h1, h2, rfl⟩ := inSeq_some (show inSeq d1 xs = some k from hk)
      refine ⟨_, op_notInD hu, fun F H x y Q le p1 p2 r1 r2 q => ?_⟩
      obtain ⟨a1, a2⟩ := shaped_of (by omega) h1 r1
      obtain ⟨b1, b2⟩ := shaped_of (n := 61) (d := .lst xs) (by omega) h2 r2
      refine ⟨_, _, a1, b1, a2, b2, ?_⟩
      rw [any_py 60 60 h1 xs h2]
      exact q.bl le
    case tup xs =>
      obtain ⟨h1, h2, rfl⟩ := inSeq_some (show inSeq d1 xs = some k from hk)
      refine ⟨_, op_ninT hu, fun F H x y Q le p1 p2 r1 r2 q => ?_⟩
      obtain ⟨a1, a2⟩ := shaped_of (by omega) h1 r1
      obtain ⟨b1, b2⟩ := shaped_of (n := 61) (d := .tup xs) (by omega) h2 r2
      refine ⟨_, _, a1, b1, a2, b2, ?_⟩
      rw [any_py 60 60 h1 xs h2]
      simpa using q.bl le
    case str ys =>
      cases d1 <;> first | (cases hk; done) | skip
      rename_i cs
      match cs, hk with
      | [c], hk =>
        cases hk
        refine ⟨_, op_notIn_sign, fun F H x y Q le p1 p2 r1 r2 q => ?_⟩
        cases r2 with
        | str _ _ => exact ⟨c, _, str_sign r1, rfl, dec_same (by simp [strOf]) (p := fun k => Q (.bl (!k)) H) (q.bl le)⟩
    case dic kvs =>
      have hk : (if isKey d1 = true then some (hasD kvs d1) else none) = some k := hk
      by_cases hz : isKey d1 = true
      · rw [if_pos hz] at hk; cases hk
        refine ⟨_, op_ninK hu, fun F H x y Q le p1 p2 r1 r2 q => ?_⟩
        obtain ⟨a, o, rfl, g, h⟩ := dget le p2 r1 hz
        refine ⟨a, o, rfl, g, ?_⟩
        have e : o.isSome = hasD kvs d1 := by
          rw [has_look]
          rcases h with ⟨h1, rfl⟩ | ⟨d', v', h1, rfl, _⟩ <;> rw [h1] <;> rfl
        rw [e]
        exact q.bl le
      · rw [if_neg hz] at hk; cases hk
/-! ### is -/
theorem od_is : OpD X (compareOp .Is) (bl2 isD) := OpD.cases fun d1 d2 t e => by
  cases d2 <;> first | (cases e; done) | skip
  case non =>
    refine ⟨_, op_isN, fun F H x y Q le p1 p2 r1 r2 q => ?_⟩
    cases r2
    refine ⟨rfl, ?_⟩
    cases d1 <;> cases e <;> cases r1 <;> exact q.bl le
  case bl b =>
    cases d1 with
    | bl a =>
      cases e
      refine ⟨_, op_isBl, fun F H x y Q le p1 p2 r1 r2 q => ?_⟩
      cases r1; cases r2
      have q := q.bl le
      refine ⟨_, _, rfl, rfl, ?_⟩
      cases a <;> cases b <;> exact q
    | _ => cases e
theorem od_nis : OpD X (compareOp .IsNot) (bl2 nisD) := OpD.cases fun d1 d2 t e => by
  cases d2 <;> first | (cases e; done) | skip
  case non =>
    refine ⟨_, op_notN, fun F H x y Q le p1 p2 r1 r2 q => ?_⟩
    cases r2
    refine ⟨rfl, ?_⟩
    cases d1 <;> cases e <;> cases r1 <;> exact q.bl le
  case bl b =>
    cases d1 with
    | bl a =>
      cases e
      refine ⟨_, op_notBl, fun F H x y Q le p1 p2 r1 r2 q => ?_⟩
      cases r1; cases r2
      have q := q.bl le
      refine ⟨_, _, rfl, rfl, ?_⟩
      cases a <;> cases b <;> exact q
    | _ => cases e
end
end Rx
end

section
/-! Rx, part 12: subscripts, slices, built-ins. -/
namespace Rx
open PySem PySem.Spec PyProof.Rows L2
section
variable {K : PySem.W.Frag} {mg : Str → Option Value} {F H : Hp}
theorem DRs.get2 {vs : List V} {ds : List D} {k : Nat} {d : D} (r : DRs K mg F vs ds) (h : ds[k]? = some d) : ∃ v, vs[k]? = some v ∧ DR K mg F v d := go r h
where go : ∀ {vs : List V} {ds : List D} {k : Nat} {d : D}, DRs K mg F vs ds → ds[k]? = some d → ∃ v, vs[k]? = some v ∧ DR K mg F v d
  | _, _, 0, _, .cons (v := v) h _, e => ⟨v, rfl, by cases e; exact h⟩
  | _, _, k + 1, _, .cons _ r, e => go (k := k) r e
theorem DRs.take : ∀ {vs : List V} {ds : List D} (n : Nat), DRs K mg F vs ds → DRs K mg F (vs.take n) (ds.take n)
  | _, _, 0, _ => by simp only [List.take_zero]; exact .nil
  | _, _, n + 1, .nil => by simp only [List.take_nil]; exact .nil
  | _, _, n + 1, .cons h r => by simp only [List.take_succ_cons]; exact .cons h (DRs.take n r)
theorem DRs.drop : ∀ {vs : List V} {ds : List D} (n : Nat), DRs K mg F vs ds → DRs K mg F (vs.drop n) (ds.drop n)
  | _, _, 0, r => r
  | _, _, n + 1, .nil => by simp only [List.drop_nil]; exact .nil
  | _, _, n + 1, .cons _ r => DRs.drop n r
theorem bnd_lo (n : Nat) (o : Option Int) : HT.sIx n 0 o = bnd n 0 o := by
  cases o with
  | none => rfl
  | some i => cases i with
    | ofNat k => exact HT.sIx_nat n 0 k
    | negSucc k => show (if Int.negSucc k < 0 then (Int.negSucc k + (n : Int)).toNat else _) = n - 1 - k; rw [if_pos (Int.negSucc_lt_zero k)]; omega
theorem bnd_hi (n : Nat) (o : Option Int) : HT.sIx n n o = bnd n n o := by
  cases o with
  | none => rfl
  | some i => cases i with
    | ofNat k => exact HT.sIx_nat n n k
    | negSucc k => show (if Int.negSucc k < 0 then (Int.negSucc k + (n : Int)).toNat else _) = n - 1 - k; rw [if_pos (Int.negSucc_lt_zero k)]; omega
theorem cut_eq {α : Type} (xs : List α) (lo hi : Option Int) : (xs.drop (HT.sIx xs.length 0 lo)).take (HT.sIx xs.length xs.length hi - HT.sIx xs.length 0 lo) = cut xs lo hi := by
  unfold cut
  rw [bnd_lo, bnd_hi, List.drop_take]
theorem cutV_eq (vs : List V) (lo hi : Option Int) : cutV vs lo hi = cut vs lo hi := cut_eq vs lo hi
theorem DRs.cut {vs : List V} {ds : List D} (r : DRs K mg F vs ds) (lo hi : Option Int) : DRs K mg F (cut vs lo hi) (Rx.cut ds lo hi) := by
  unfold Rx.cut
  rw [r.length]
  exact (r.take _).drop _
theorem cut_len {α : Type} (xs : List α) (lo hi : Option Int) : (cut xs lo hi).length ≤ xs.length := by
  unfold cut
  rw [List.length_drop, List.length_take]; omega
theorem cut_mem {α : Type} {xs : List α} {lo hi : Option Int} {x : α} (h : x ∈ cut xs lo hi) : x ∈ xs := List.mem_of_mem_take (List.mem_of_mem_drop h)
theorem getI_at {vs : List V} {ds : List D} {i : Int} {d : D} (r : DRs K mg F vs ds) (h : getI ds i = some d) : ∃ v, atI vs i = some v ∧ DR K mg F v d := by
  unfold getI at h
  cases hp : plc ds.length i with
  | none => rw [hp] at h; cases h
  | some k =>
    rw [hp] at h
    obtain ⟨v, h1, h2⟩ := r.get2 h
    refine ⟨v, ?_, h2⟩
    unfold atI
    rw [r.length, (plc_ixN hp).1]
    exact h1
theorem getI_nat {xs : List Nat} {i : Int} {c : Nat} (h : getI xs i = some c) : atI xs i = some c := by
  unfold getI at h
  cases hp : plc xs.length i with
  | none => rw [hp] at h; cases h
  | some k =>
    rw [hp] at h
    unfold atI
    rw [(plc_ixN hp).1]
    exact h
theorem getI_mem {α : Type} {xs : List α} {i : Int} {c : α} (h : getI xs i = some c) : c ∈ xs := by
  unfold getI at h
  cases hp : plc xs.length i with
  | none => rw [hp] at h; cases h
  | some k => rw [hp] at h; exact List.mem_of_getElem? h
theorem look_key : ∀ {ks : List (Key × V)} {ds : List (D × D)} {k d : D}, DRk K mg F ks ds → lookD ds k = some d → ∃ k' : Key, k = keyD k'
  | _, _, _, _, .nil, h => by cases h
  | _, _, k, d, .cons (k := k') ok r rs, h => by
    by_cases e : keyD k' = k
    · exact ⟨k', e.symm⟩
    · exact look_key rs (by simpa [lookD, e] using h)
theorem PR.lk {v : V} {xs : List D} (p : PR K mg H F v (.lk xs)) : ∃ a vs, v = .ref a ∧ SqL K F a vs ∧ vs.length ≤ sizeLine ∧ DRs K mg F vs xs := by
  cases p with
  | fz h => cases h with
    | lk h1 h2 h3 => exact ⟨_, _, rfl, h1, h2, h3⟩
end
section
variable {X : Cx}
def rIxK : R2 := fun x y H Q => ∃ a v, x = .ref a ∧ DGet H a y (some v) ∧ Q v H
theorem ix_K (hu : X.A.units + 1 < cLine) : IxR X rIxK := by
  intro value slice pins s σ H x y v u Q I rx ry h hs
  obtain ⟨a, w, rfl, g, q⟩ := h
  cases rx
  exact tail_any (dict_typeIs I g) PySem.F.slot_dict_getitem.lookup (d_getItem hu I g ry fun w' s' I' r' => ⟨w, H, I', r', q⟩) hs
theorem IxR.cases {g : D → D → Option OT} (h : ∀ d1 d2 t, g d1 d2 = some t → ∃ r, IxR X r ∧ ∀ F H x y Q, Same F H → PR X.K X.mg H F x d1 → PR X.K X.mg H F y d2 → DR X.K X.mg H x d1 → DR X.K X.mg H y d2 → FinP X.K X.mg H F t Q → r x y H Q) : IxR X (R2D X.K X.mg g) := by
  intro value slice pins s σ H x y v u Q I rx ry q hs
  obtain ⟨F, d1, d2, t, le, p1, p2, e, q⟩ := q
  obtain ⟨r, ho, k⟩ := h d1 d2 t e
  exact ho value slice pins s σ H x y v u Q I rx ry (k F H x y Q le p1 p2 (p1.all le) (p2.all le) q) hs
theorem od_ix (hu : X.A.units + 64 < cLine) : IxR X (R2D X.K X.mg (fz2 ixK)) := IxR.cases fun d1 d2 t e => by
  unfold fz2 at e
  cases hk : ixK d1 d2 with
  | none => rw [hk] at e; cases e
  | some d =>
    rw [hk] at e; cases e
    cases d1 <;> first | (cases hk; done) | skip
    case dic kvs =>
      have hk : lookD kvs d2 = some d := hk
      refine ⟨_, ix_K (by omega), fun F H x y Q le p1 p2 r1 r2 q => ?_⟩
      obtain ⟨a, ks, rfl, h1, h2⟩ := p1.dict le
      have : ∃ k : Key, d2 = keyD k := by
        exact look_key h2 hk
      obtain ⟨k, rfl⟩ := this
      have hk2 : isKey (keyD k) = true := by cases k <;> rfl
      obtain ⟨a', o, e1, g, h⟩ := dget le p1 r2 hk2
      rcases h with ⟨h3, _⟩ | ⟨d', v', h3, rfl, r'⟩
      · rw [hk] at h3; cases h3
      · rw [hk] at h3; cases h3
        exact ⟨a', v', e1, g, q.same le r'⟩
    case lst xs =>
      cases d2 <;> first | (cases hk; done) | skip
      rename_i i
      have hk : getI xs i = some d := hk
      refine ⟨_, ix_list, fun F H x y Q le p1 p2 r1 r2 q => ?_⟩
      obtain ⟨a, vs, rfl, h1, h2, h3⟩ := p1.items le
      obtain ⟨v, e1, r⟩ := getI_at h3 hk
      cases r2
      exact ⟨a, vs, i, v, rfl, rfl, .inl (.inl h1), e1, q.same le r⟩
    case lk xs =>
      cases d2 <;> first | (cases hk; done) | skip
      rename_i i
      have hk : getI xs i = some d := hk
      refine ⟨_, ix_list, fun F H x y Q le p1 p2 r1 r2 q => ?_⟩
      obtain ⟨a, vs, rfl, h1, h2, h3⟩ := p1.lk
      obtain ⟨v, e1, r⟩ := getI_at h3 hk
      cases r2
      exact ⟨a, vs, i, v, rfl, rfl, le.seq h1, e1, q.same le r⟩
    case tup xs =>
      cases d2 <;> first | (cases hk; done) | skip
      rename_i i
      have hk : getI xs i = some d := hk
      refine ⟨_, ix_tup, fun F H x y Q le p1 p2 r1 r2 q => ?_⟩
      obtain ⟨a, vs, rfl, h1, h2, h3, _⟩ := p1.tups le
      obtain ⟨v, e1, r⟩ := getI_at h3 hk
      cases r2
      exact ⟨a, vs, i, v, rfl, rfl, h1, e1, q.same le r⟩
    case str xs =>
      cases d2 <;> first | (cases hk; done) | skip
      rename_i i
      have hk : ((getI xs i).map fun c => D.str [c]) = some d := hk
      cases hg : getI xs i with
      | none => rw [hg] at hk; cases hk
      | some c =>
        rw [hg] at hk; cases hk
        refine ⟨_, ix_str, fun F H x y Q le p1 p2 r1 r2 q => ?_⟩
        cases r2
        cases r1 with
        | str l cs => exact ⟨_, i, c, rfl, rfl, l, by simpa [strOf] using getI_nat hg, q.same le (.str (s := [c]) (by rw [sizeLine_eq]; exact Nat.succ_le_succ (Nat.zero_le _)) (by simpa using cs c (getI_mem hg)))⟩
/-! ### slices -/
theorem od_sl : L2.SlR X (RsD X.K X.mg slD) := by
  intro pins s σ H x v vl vu lo hi sl Q I rx hs pl pu h
  obtain ⟨F, d, t, le, p, e, q⟩ := h
  cases d <;> first | (cases e; done) | skip
  case str xs =>
    cases e
    refine sl_str pins s σ H x v vl vu lo hi sl Q I rx hs pl pu ?_
    cases p.all le with
    | str l c =>
      refine ⟨_, rfl, l, ?_⟩
      have e1 : cutS (strOf xs) lo hi = strOf (cut xs lo hi) := by
        unfold cutS strOf
        have e2 : (⟨xs.toArray⟩ : Str).length = xs.length := rfl
        simp only [e2]
        rw [cut_eq]
      rw [e1]
      exact q.same le (.str (Nat.le_trans (cut_len _ _ _) l) fun k hk => c k (cut_mem hk))
  case tup xs =>
    cases e
    refine sl_tupA pins s σ H x v vl vu lo hi sl Q I rx hs pl pu ?_
    obtain ⟨a, vs, rfl, h1, h2, h3, h4⟩ := p.tups le
    refine ⟨a, vs, rfl, h1, fun ⟨z1, z2⟩ => ?_, fun _ p hp => ?_⟩
    · have e1 : cut xs lo hi = xs := by
        unfold cut
        rw [← bnd_lo, ← bnd_hi, ← h3.length, z1, z2, h3.length, List.drop_zero, List.take_length]
      rw [e1] at q
      exact q.same le h4
    · rw [cutV_eq]
      exact q.new le hp (.tup (.inl (.inl upd_same)) (Nat.le_trans (cut_len _ _ _) h2) (DRs.mono (same_up (Same.free le hp)) (h3.cut lo hi)))
  case lst xs =>
    cases e
    refine sl_list pins s σ H x v vl vu lo hi sl Q I rx hs pl pu ?_
    obtain ⟨a, vs, rfl, h1, h2, h3⟩ := p.items le
    refine ⟨a, vs, rfl, .inl (.inl h1), fun p hp => ?_⟩
    rw [cutV_eq]
    exact q.newL le hp (h3.cut lo hi) (Nat.le_trans (cut_len _ _ _) h2)
/-! ### unary minus -/
theorem od_neg : UnR X (unaryOp .USub) (R1D X.K X.mg (fz1 negD)) := by
  intro pins s σ H x v Q I rx h
  obtain ⟨F, d, t, le, p, e, q⟩ := h
  cases d <;> cases e
  cases p.all le
  exact un_neg pins s σ H _ v Q I rx ⟨_, rfl, q.int le⟩
/-! ### built-ins -/
theorem CallR.cases {f : Value} {g : List D → Option OT} (h : ∀ ds t, g ds = some t → ∃ r, CallR X f r ∧ ∀ F H xs Q, Same F H → PRs X.K X.mg H F xs ds → FinP X.K X.mg H F t Q → r xs H Q) : CallR X f (RcD X.K X.mg g) := by
  intro pins s σ H xs us Q I r q
  obtain ⟨F, ds, t, le, p, e, q⟩ := q
  obtain ⟨w, ho, k⟩ := h ds t e
  exact ho pins s σ H xs us Q I r (k F H xs Q le p q)
theorem PRs.one {H F : Hp} {xs : List V} {d : D} (p : PRs X.K X.mg H F xs [d]) : ∃ v, xs = [v] ∧ PR X.K X.mg H F v d := by
  cases p with
  | cons a b => cases b; exact ⟨_, rfl, a⟩
theorem one_of {g : List D → Option OT} {ds : List D} {t : OT} (e : g ds = some t) (h0 : g [] = none) (h2 : ∀ a b r, g (a :: b :: r) = none) : ∃ d, ds = [d] := by
  match ds, e with
  | [], e => rw [h0] at e; cases e
  | [d], _ => exact ⟨d, rfl⟩
  | a :: b :: r, e => rw [h2] at e; cases e
theorem bi_len (h : X.mg "len" = none) : HasBi X "len" lenD := ⟨h, by decide, .inl ⟨"len", rfl, CallR.cases fun ds t e => by
  obtain ⟨d, rfl⟩ := one_of e rfl (fun a b r => by cases a <;> rfl)
  cases d <;> first | (cases e; done) | skip
  case str xs =>
    cases e
    refine ⟨_, call_len, fun F H vs Q le p q => ?_⟩
    obtain ⟨v, rfl, p2⟩ := p.one
    cases p2.all le with
    | str l c => exact ⟨_, xs.length, rfl, ⟨l, rfl⟩, q.int le⟩
  case tup xs =>
    cases e
    refine ⟨_, call_len, fun F H vs Q le p q => ?_⟩
    obtain ⟨v, rfl, p2⟩ := p.one
    obtain ⟨a, vs, rfl, h1, h2, h3, h4⟩ := p2.tups le
    exact ⟨_, vs.length, rfl, .inr ⟨vs, h1, rfl⟩, by rw [h3.length]; exact q.int le⟩
  case lst xs =>
    cases e
    refine ⟨_, call_len, fun F H vs Q le p q => ?_⟩
    obtain ⟨v, rfl, p2⟩ := p.one
    obtain ⟨a, vs, rfl, h1, h2, h3⟩ := p2.items le
    exact ⟨_, vs.length, rfl, .inl ⟨vs, .inl (.inl h1), rfl⟩, by rw [h3.length]; exact q.int le⟩
  case lk xs =>
    cases e
    refine ⟨_, call_len, fun F H vs Q le p q => ?_⟩
    obtain ⟨v, rfl, p2⟩ := p.one
    obtain ⟨a, vs, rfl, h1, h2, h3⟩ := p2.lk
    exact ⟨_, vs.length, rfl, .inl ⟨vs, le.seq h1, rfl⟩, by rw [h3.length]; exact q.int le⟩
  case dic xs =>
    cases e
    refine ⟨_, call_lenD, fun F H vs Q le p q => ?_⟩
    obtain ⟨v, rfl, p2⟩ := p.one
    obtain ⟨a, vs, rfl, h1, h2⟩ := p2.dict le
    exact ⟨_, vs, rfl, h1, by rw [h2.length]; exact q.int le⟩⟩⟩
theorem bi_abs (h : X.mg "abs" = none) : HasBi X "abs" absD := ⟨h, by decide, .inl ⟨"abs", rfl, CallR.cases fun ds t e => by
  obtain ⟨d, rfl⟩ := one_of e rfl (fun a b r => by cases a <;> rfl)
  cases d <;> cases e
  refine ⟨_, call_abs, fun F H vs Q le p q => ?_⟩
  obtain ⟨v, rfl, p2⟩ := p.one
  cases p2.all le
  exact ⟨_, rfl, q.int le⟩⟩⟩
theorem bi_int (h : X.mg "int" = none) : HasBi X "int" intB := ⟨h, by decide, .inr ⟨"int", rfl, CallR.cases fun ds t e => by
  obtain ⟨d, rfl⟩ := one_of e rfl (fun a b r => by cases a <;> rfl)
  refine ⟨_, call_int1, fun F H vs Q le p q => ?_⟩
  obtain ⟨v, rfl, p2⟩ := p.one
  cases d <;> cases e
  · cases p2.all le
    exact .inr ⟨_, rfl, q.int le⟩
  · cases p2.all le
    exact .inl ⟨_, rfl, q.int le⟩⟩⟩
/-! ### all, any, list, tuple -/
theorem bls_V {K : PySem.W.Frag} {mg : Str → Option Value} {F : Hp} : ∀ {xs : List D} {bs : List Bool} {vs : List V}, blsOf xs = some bs → DRs K mg F vs xs → vs = bs.map V.bl
  | [], bs, vs, e, r => by cases e; cases r; rfl
  | x :: xs, bs, vs, e, r => by
    cases x <;> first | (cases e; done) | skip
    rename_i b
    have e : (blsOf xs).map (b :: ·) = some bs := e
    cases h : blsOf xs with
    | none => rw [h] at e; cases e
    | some bs' =>
      rw [h] at e; cases e
      cases r with
      | cons a c =>
        cases a
        rw [bls_V h c]; rfl
theorem bi_all (hc : X.calm = true) (h : X.mg "all" = none) : HasBi X "all" allB := ⟨h, by decide, .inl ⟨"all", rfl, CallR.cases fun ds t e => by
  obtain ⟨d, rfl⟩ := one_of e rfl (fun a b r => by cases a <;> rfl)
  cases d <;> first | (cases e; done) | skip
  rename_i xs
  have e : (blsOf xs).map (fun bs => OT.fz (.bl (bs.all id))) = some t := e
  cases hb : blsOf xs with
  | none => rw [hb] at e; cases e
  | some bs =>
    rw [hb] at e; cases e
    refine ⟨_, cr_all hc, fun F H vs Q le p q => ?_⟩
    obtain ⟨v, rfl, p2⟩ := p.one
    obtain ⟨a, vs, rfl, h1, h2, h3⟩ := p2.items le
    rw [bls_V hb h3] at h1
    exact ⟨a, bs, rfl, .inl (.inl h1), q.bl le⟩⟩⟩
theorem bi_any (hc : X.calm = true) (h : X.mg "any" = none) : HasBi X "any" anyB := ⟨h, by decide, .inl ⟨"any", rfl, CallR.cases fun ds t e => by
  obtain ⟨d, rfl⟩ := one_of e rfl (fun a b r => by cases a <;> rfl)
  cases d <;> first | (cases e; done) | skip
  rename_i xs
  have e : (blsOf xs).map (fun bs => OT.fz (.bl (bs.any id))) = some t := e
  cases hb : blsOf xs with
  | none => rw [hb] at e; cases e
  | some bs =>
    rw [hb] at e; cases e
    refine ⟨_, cr_any hc, fun F H vs Q le p q => ?_⟩
    obtain ⟨v, rfl, p2⟩ := p.one
    obtain ⟨a, vs, rfl, h1, h2, h3⟩ := p2.items le
    rw [bls_V hb h3] at h1
    exact ⟨a, bs, rfl, .inl (.inl h1), q.bl le⟩⟩⟩
theorem bi_list (h : X.mg "list" = none) : HasBi X "list" listB := ⟨h, by decide, .inr ⟨"list", rfl, CallR.cases fun ds t e => by
  obtain ⟨d, rfl⟩ := one_of e rfl (fun a b r => by cases a <;> rfl)
  refine ⟨_, call_list_of, fun F H vs Q le p q => ?_⟩
  obtain ⟨v, rfl, p2⟩ := p.one
  cases d <;> first | (cases e; done) | skip
  case lst xs =>
    cases e
    obtain ⟨a, vs, rfl, h1, h2, h3⟩ := p2.items le
    exact ⟨a, vs, rfl, .inl (.inl (.inl h1)), fun l hl => q.newL le hl h3 h2⟩
  case lk xs =>
    cases e
    obtain ⟨a, vs, rfl, h1, h2, h3⟩ := p2.lk
    exact ⟨a, vs, rfl, .inl (le.seq h1), fun l hl => q.newL le hl h3 h2⟩
  case tup xs =>
    cases e
    obtain ⟨a, vs, rfl, h1, h2, h3, _⟩ := p2.tups le
    exact ⟨a, vs, rfl, .inr h1, fun l hl => q.newL le hl h3 h2⟩⟩⟩
theorem bi_tuple (h : X.mg "tuple" = none) : HasBi X "tuple" tupB := ⟨h, by decide, .inr ⟨"tuple", rfl, CallR.cases fun ds t e => by
  obtain ⟨d, rfl⟩ := one_of e rfl (fun a b r => by cases a <;> rfl)
  refine ⟨_, call_tuple_of, fun F H vs Q le p q => ?_⟩
  obtain ⟨v, rfl, p2⟩ := p.one
  cases d <;> first | (cases e; done) | skip
  case lst xs =>
    cases e
    obtain ⟨a, vs, rfl, h1, h2, h3⟩ := p2.items le
    exact ⟨a, vs, rfl, .inl ⟨.inl (.inl h1), fun l hl => q.new le hl (.tup (.inl (.inl upd_same)) h2 (DRs.mono (same_up (Same.free le hl)) h3))⟩⟩
  case tup xs =>
    cases e
    obtain ⟨a, vs, rfl, h1, h2, h3, h4⟩ := p2.tups le
    exact ⟨a, vs, rfl, .inr ⟨h1, q.same le h4⟩⟩⟩⟩
end
/-! ### isinstance -/
section
variable {X : Cx}
theorem kit_isi {d : D} {T a : String} {b : Bool} (h : isiB d T = some b) (e : d.ty = some a) : kitB a T = some b := by
  unfold isiB at h
  split at h <;> first | (rw [e] at h; cases h) | cases h
  all_goals (cases d <;> cases e <;> decide +kernel)
theorem tyX_of {K : PySem.W.Frag} {mg : Str → Option Value} {H F : Hp} {v : V} {d : D} {a : String} (le : Same F H) (p : PR K mg H F v d) (e : d.ty = some a) : TyX K H v (.type a) := by
  cases d <;> cases e
  case non => cases p.all le; exact .base .non
  case bl => cases p.all le; exact .base (.bl _)
  case int => cases p.all le; exact .base (.int _)
  case str => cases p.all le; exact .base (.str _)
  case tup xs =>
    obtain ⟨a, vs, rfl, h1, _⟩ := p.tups le
    rcases h1 with (h1 | ⟨o, h1⟩) | ⟨o, its, n, h1, h2, _⟩
    · exact .base (.tup h1)
    · exact .fTuple h1
    · exact .kTuple h1 h2
  case lst xs =>
    obtain ⟨a, vs, rfl, h1, _⟩ := p.items le
    exact .base (.lst h1)
  case dic xs =>
    obtain ⟨a, vs, rfl, h1, _⟩ := p.dict le
    exact .base (.dK h1)
theorem pe_isi {W : WX} {T : String} {tn : Str} {e : Expr} {xe : IE} {me : M OT} {p p2 pos : Pos} (hx : tn ≠ "__name__") (hT : bootBuiltins tn = some (.type T)) (h0 : X.mg "isinstance" = none) (h1 : X.mg tn = none) (hg : Gl X "isinstance") (hgT : Gl X tn) (hdT : (tn == ("__debug__" : Str)) = false)
    (ha : PE X e (tOX X W xe me)) (he : starEach [e, .Name tn p2] X.env = (false, eval e X.env) :: starEach [.Name tn p2] X.env) (he2 : starEach [.Name tn p2] X.env = [(false, eval (.Name tn p2) X.env)]) (hpl : (backTo pos (starEach [.Name tn p2] X.env)).any (·.1) = false) :
    PE X (.Call (.Name "isinstance" p) [e, .Name tn p2] [] pos) (tDX X W (M.bind (opd xe me) fun ra => M.bind (M.pure ([] : List (Option D))) fun rs => M.bind (fin xe ra) fun x => M.bind (fins [] rs) fun ds => M.lift (isiD T x ds))) := by
  refine PE.imp (pe_callB call_isi hg h0 rfl (pa_cons ha (pa_cons (pe_bltn hgT h1 hT (v := .ty T) rfl hx hdT) pa_nil he2) he) (by decide) (by decide) he hpl) fun σ H Q h => ?_
  obtain ⟨F, en, fp, ss, h⟩ := h
  refine opd_use Stp.refl ss h fun v H1 F1 fp1 r e1 s1 _ ss1 o1 h1 => ?_
  obtain ⟨d, pd, h2⟩ := fin_use ss1 o1 h1
  obtain ⟨t, ht, hq⟩ := lift_end s1 ss1 h2
  unfold isiD at ht
  cases hb : isiB d T with
  | none => rw [hb] at ht; cases ht
  | some b =>
    rw [hb] at ht; cases ht
    have : ∃ a, d.ty = some a := by
      cases hd : d.ty with
      | some a => exact ⟨a, rfl⟩
      | none =>
        unfold isiB at hb
        rw [hd] at hb
        split at hb <;> cases hb
    obtain ⟨a, ea⟩ := this
    exact ⟨v, .ty T, .type a, .type T, b, rfl, .ty T, tyX_of ss1.le pd ea, kit_ty (kit_isi hb ea), hq.bl ss1.le⟩
end
end Rx
end

section
/-! Rx, part 13: the rules in short: IR beside syntax. -/
namespace Rx
open PySem PySem.Spec PyProof.Rows L2

structure Cq (X : Cx) (W : WX) (k : Nat) : Prop where
  room : Room k X.A
  tk : Takes X W
  calm : X.calm = true
  nd : X.N.Nodup
section
variable {X : Cx} {W : WX} {k : Nat}
theorem Cq.u64 (c : Cq X W k) : X.A.units + 64 < cLine := c.room.units
theorem Cq.u65 (c : Cq X W k) : X.A.units + 65 < cLine := by have := c.room.un; omega
theorem Cq.u1 (c : Cq X W k) : X.A.units + 1 < cLine := by have := c.room.un; omega
theorem Cq.blk (c : Cq X W k) {s : Shared} {H : Hp} {sc : Scope} {e : Env} {fp : List Addr} : Cq (X.blk s H sc e fp) W0 k :=
  ⟨c.room, fun u s' x => by obtain ⟨a, B, sI, pins, σ, H, cls, d, e, I, nb, up, sky, na, os, ag, w⟩ := x; exact w.elim, c.calm, c.nd⟩
end

abbrev JE (X : Cx) (W : WX) (x : IE) (e : Expr) : Prop := PE X e (tDX X W (sem x).1)
abbrev JO (X : Cx) (W : WX) (x : IE) (e : Expr) : Prop := PE X e (tOX X W x (sem x).1)
abbrev JT (X : Cx) (W : WX) (x : IE) (e : Expr) : Prop := PT X e (tDbX X W (sem x).2)
abbrev JA (X : Cx) (W : WX) (r : Bool) (x : IE) (e : Expr) : Prop := PE X e (tArg X.K X.mg W r x (sem x).1)
abbrev JL (X : Cx) (W : WX) (xs : List IE) (es : List Expr) : Prop := PA X es (tDs X.K X.mg W (evs xs))
abbrev JLO (X : Cx) (W : WX) (xs : List IE) (es : List Expr) : Prop := PA X es (tOps X.K X.mg W xs)
abbrev JLA (X : Cx) (W : WX) (ms : List Bool) (xs : List IE) (es : List Expr) : Prop := PA X es (tDa X.K X.mg W (evArgs ms xs))
abbrev JI (X : Cx) (W : WX) (k : ITK) (its : List IE) (tg e : Expr) : Prop := PI X tg e (tI X.K X.mg W (itM k its))
abbrev JG (X : Cx) (t : TGt) (e : Expr) : Prop := PG X e (gOf X.K t)
abbrev JGs (X : Cx) (t : List TGt) (e : List Expr) : Prop := PGs X e (gsOf X.K t)
abbrev JC (X : Cx) (W : WX) (c : Option IE) (es : List Expr) : Prop := PTs X es (tDbX X W (semOpt c))
abbrev JS (X : Cx) (W : WX) (P : Nat → Bool) (s : IS) (st : Stmt) : Prop := PS X st (tSX X W P (run1 s))
abbrev JSs (X : Cx) (W : WX) (P : Nat → Bool) (s : List IS) (st : List Stmt) : Prop := PSs X st (tSX X W P (run s))

section
variable {X : Cx} {W : WX} {k : Nat} {P : Nat → Bool} {pos p p2 : Pos} {a b c e elt iter tg : Expr} {es rest : List Expr} {xa xb xc x : IE} {xs : List IE}
/-! ### leaves -/
theorem e_var (j : Nat) {x : Str} (hN : X.N[j]? = some x := by rfl) (hv : Vis X.env.scope x := by first | exact Or.inl rfl | exact Or.inr (Or.inl rfl) | exact Or.inr (Or.inr rfl)) (hd : (x == ("__debug__" : Str)) = false := by decide)
    (hcd : (x == ("__classdict__" : Str)) = false := by decide) : JE X W (.var j) (.Name x pos) := pe_read (pe_var hN hv hd hcd)
theorem e_mv (j : Nat) {x : Str} (hN : X.N[j]? = some x := by rfl) (hv : Vis X.env.scope x := by first | exact Or.inl rfl | exact Or.inr (Or.inl rfl) | exact Or.inr (Or.inr rfl)) (hd : (x == ("__debug__" : Str)) = false := by decide)
    (hcd : (x == ("__classdict__" : Str)) = false := by decide) : JE X W (.mv j) (.Name x pos) := pe_move (pe_var hN hv hd hcd)
theorem o_var (j : Nat) {x : Str} (hN : X.N[j]? = some x := by rfl) (hv : Vis X.env.scope x := by first | exact Or.inl rfl | exact Or.inr (Or.inl rfl) | exact Or.inr (Or.inr rfl)) (hd : (x == ("__debug__" : Str)) = false := by decide)
    (hcd : (x == ("__classdict__" : Str)) = false := by decide) : JO X W (.var j) (.Name x pos) := pe_var hN hv hd hcd
theorem r_var (j : Nat) {x : Str} (hN : X.N[j]? = some x := by rfl) (hv : Vis X.env.scope x := by first | exact Or.inl rfl | exact Or.inr (Or.inl rfl) | exact Or.inr (Or.inr rfl)) (hd : (x == ("__debug__" : Str)) = false := by decide)
    (hcd : (x == ("__classdict__" : Str)) = false := by decide) : JA X W true (.var j) (.Name x pos) := pe_var hN hv hd hcd
theorem o_e (h : JE X W x e) (hv : x.isVar = none := by rfl) : JO X W x e := by
  unfold JO tOX tO; rw [hv]; exact h
theorem r_f (h : JE X W x e) : JA X W false x e := h
theorem r_t (h : JE X W x e) (hv : x.isVar = none := by rfl) : JA X W true x e := by
  unfold JA tArg refVar; rw [hv]; exact h
theorem e_int {i : Int} {j : Nat} : JE X W (.con (.int i)) (.Constant (.int i) j pos) := pe_c pe_int fun F => .int i
theorem e_bl {i : Bool} {j : Nat} : JE X W (.con (.bl i)) (.Constant (.bool i) j pos) := pe_c pe_bl fun F => .bl i
theorem e_non {j : Nat} : JE X W (.con .non) (.Constant .none j pos) := pe_c pe_non fun F => .non
theorem e_str {s : List Nat} {z : Str} {j : Nat} (h : z = strOf s := by rfl) (hl : (decide (s.length ≤ sizeMax) && s.all fun c => decide (c < 0x110000)) = true := by decide +kernel) : JE X W (.con (.str s)) (.Constant (.str z) j pos) := by
  subst h
  rw [Bool.and_eq_true, List.all_eq_true] at hl
  exact pe_c pe_str fun F => .str (of_decide_eq_true hl.1) fun c hc => of_decide_eq_true (hl.2 c hc)
/-- a global that stands for data -/
def HasG (X : Cx) (x : Str) (d : D) : Prop := ∃ u v, X.mg x = some u ∧ RelV v u ∧ ∀ F, DR X.K X.mg F v d
theorem e_glo {x : Str} {d : D} (h : HasG X x d) (hg : Gl X x := by rfl) (hd : (x == ("__debug__" : Str)) = false := by decide) : JE X W (.glo x d) (.Name x pos) := by
  obtain ⟨u, v, h1, h2, h3⟩ := h
  exact pe_c (pe_glob hg h1 h2 hd) h3
theorem e_dnew : JE X W .dnew (.Dict [] [] pos) := by
  refine PE.imp pe_dnewK fun σ H Q q => ?_
  obtain ⟨F, en, fp, ss, q⟩ := q
  intro p hp
  have q : FinV X.K X.mg H F fp σ Q (.dic []) en := q
  have hFp : F p = none := Same.free ss.le hp
  have hn : p ∉ fp := fun z => by
    obtain ⟨o, e⟩ := ss.env.there p z
    rw [hp] at e; cases e
  refine q (.ref p) _ F fp [p] ⟨(Stp.newO hp).sub fun a ha => ha, ⟨same_new ss.le hp, ss.env.keep (Same.refl _) fun a ha o e => by rw [upd_ne (ne_of_none e hp)]; exact e, ss.own⟩, .dK upd_same .nil, fun a ha => ?_, fun a ha => ?_⟩
  · have : a = p := by simpa using ha
    rw [this]; exact hn
  · have : a = p := by simpa using ha
    rw [this]; exact hFp
/-- nobody's own from here on -/
theorem e_fz (h : JE X W x e) : JE X W (.fzz x) e := by
  refine PE.imp h fun σ H Q q => ?_
  obtain ⟨F, en, fp, ss, q⟩ := q
  have q : WP X.K X.mg W σ H F fp (((sem x).1 en).bind fun t e1 => R.ok (OT.fz t.view) e1) (FinV X.K X.mg H F fp σ Q) := q
  refine ⟨F, en, fp, ss, ?_⟩
  cases hm : (sem x).1 en with
  | bad => rw [hm] at q; exact q
  | exn y e1 => rw [hm] at q; exact q
  | ok t e1 =>
    rw [hm] at q
    intro v H' F' fpe fpv p
    exact q v H' _ fpe [] (fmt_fz p)
/-! ### lists of expressions -/
theorem l_nil : JL X W [] [] := pa_nilD
theorem l_cons (ha : JE X W x a) (hr : JL X W xs es) (hs : starEach (a :: es) X.env = (false, eval a X.env) :: starEach es X.env := by rfl) : JL X W (x :: xs) (a :: es) := pa_consD ha hr hs
theorem lo_nil : JLO X W [] [] := pa_nilO
theorem lo_cons (ha : JO X W x a) (hr : JLO X W xs es) (hs : starEach (a :: es) X.env = (false, eval a X.env) :: starEach es X.env := by rfl) : JLO X W (x :: xs) (a :: es) := pa_consO ha hr hs
theorem la_nil {ms : List Bool} : JLA X W ms [] [] := pa_nilA
theorem la_cons {m : Bool} {ms : List Bool} (ha : JA X W m x a) (hr : JLA X W ms xs es) (hs : starEach (a :: es) X.env = (false, eval a X.env) :: starEach es X.env := by rfl) : JLA X W (m :: ms) (x :: xs) (a :: es) := pa_consA (ms := m :: ms) ha hr hs
theorem e_tup {n : Nat} (h : JL X W xs es) (hl : decide (xs.length ≤ 100000) = true := by rfl) : JE X W (.tup xs) (.Tuple es n pos) := pe_tupD (of_decide_eq_true hl) h
theorem e_lst (h : JL X W xs es) (hl : decide (xs.length ≤ 100000) = true := by rfl) : JE X W (.lst xs) (.List es pos) := pe_lstD (of_decide_eq_true hl) h
/-! ### operations -/
theorem e_bop {op : Operator} {g : D → D → Option OT} (ho : OpD X (binaryOp op) g) (ha : JO X W xa a) (hb : JO X W xb b) : JE X W (.bop op g xa xb) (.BinOp a op b pos) := pe_bop ho ha hb
theorem e_cmp {op : CmpOp} {g : D → D → Option Bool} (ho : OpD X (compareOp op) (bl2 g)) (ha : JO X W xa a) (hb : JO X W xb b) (hm : behindInMarks op b = false := by first | exact nomark _ | with_unfolding_all rfl) : JE X W (.cmp op g xa xb) (.Compare a [op] [b] pos) := pe_cmpD ho ha hb hm
theorem t_cmp {op : CmpOp} {g : D → D → Option Bool} (ho : OpD X (compareOp op) (bl2 g)) (ha : JO X W xa a) (hb : JO X W xb b) (hm : behindInMarks op b = false := by first | exact nomark _ | with_unfolding_all rfl) : JT X W (.cmp op g xa xb) (.Compare a [op] [b] pos) := pt_cmpD ho ha hb hm
theorem e_neg (ha : JO X W xa a) : JE X W (.uop .USub negD xa) (.UnaryOp .USub a pos) := pe_uopD od_neg ha
theorem e_ix (c : Cq X W k) (ha : JO X W xa a) (hb : JO X W xb b) (hs : PlainIx b := by exact fun _ _ => rfl) : JE X W (.ix xa xb) (.Subscript a b pos) := pe_ixD (od_ix c.u64) ha hb hs
theorem e_sl {lo hi : Option Expr} {xl xh : Option IE} (ha : JO X W xa a) (hl : PO X lo (tOp_ X.K X.mg W (evOpt xl))) (hh : PO X hi (tOp_ X.K X.mg W (evOpt xh))) : JE X W (.sl xa xl xh) (.Subscript a (.Slice lo hi none p2) pos) := pe_slD od_sl ha hl hh
theorem po_n : PO X none (tOp_ X.K X.mg W (evOpt none)) := po_noneD
theorem po_s (h : JE X W x e) : PO X (some e) (tOp_ X.K X.mg W (evOpt (some x))) := po_someD h
/-! ### tests -/
theorem t_of (ha : JO X W x a) (hx : (sem x).2 = truthM x (sem x).1 := by rfl) (he : ∀ whole, isTrue a X.env whole = (do let v ← whole; standAt a.pos; holding [v] (truthy v)) := by intro _; rfl) : JT X W x a := by
  unfold JT; rw [hx]; exact pt_truthD ha he
theorem e_not (ha : JO X W xa a) : JE X W (.nt xa) (.UnaryOp .Not a pos) := pe_notD ha
theorem t_not (ha : JT X W xa a) : JT X W (.nt xa) (.UnaryOp .Not a pos) := pt_notD ha
theorem w_and1 (ha : JT X W x a) : PW X (.BoolOp .And [a] pos) (tDbX X W (sem (.und [x])).2) := pw_and1D ha
theorem w_or1 (ha : JT X W x a) : PW X (.BoolOp .Or [a] pos) (tDbX X W (sem (.orr [x])).2) := pw_or1D ha
theorem w_and (ha : JT X W x a) (hb : PW X (.BoolOp .And (b :: rest) pos) (tDbX X W (sem (.und xs)).2)) : PW X (.BoolOp .And (a :: b :: rest) pos) (tDbX X W (sem (.und (x :: xs))).2) := pw_andD ha hb
theorem w_or (ha : JT X W x a) (hb : PW X (.BoolOp .Or (b :: rest) pos) (tDbX X W (sem (.orr xs)).2)) : PW X (.BoolOp .Or (a :: b :: rest) pos) (tDbX X W (sem (.orr (x :: xs))).2) := pw_orD ha hb
theorem t_and (h : PW X (.BoolOp .And es pos) (tDbX X W (sem (.und xs)).2)) : JT X W (.und xs) (.BoolOp .And es pos) := h.pt
theorem t_or (h : PW X (.BoolOp .Or es pos) (tDbX X W (sem (.orr xs)).2)) : JT X W (.orr xs) (.BoolOp .Or es pos) := h.pt
theorem e_and1 (ha : JE X W x a) : JE X W (.und [x]) (.BoolOp .And [a] pos) := pe_one ha
theorem e_or1 (ha : JE X W x a) : JE X W (.orr [x]) (.BoolOp .Or [a] pos) := pe_one ha
theorem e_and {y : IE} (ha : JE X W x a) (hb : JE X W (.und (y :: xs)) (.BoolOp .And (b :: rest) pos)) : JE X W (.und (x :: y :: xs)) (.BoolOp .And (a :: b :: rest) pos) := pe_andD ha hb
theorem e_or {y : IE} (ha : JE X W x a) (hb : JE X W (.orr (y :: xs)) (.BoolOp .Or (b :: rest) pos)) : JE X W (.orr (x :: y :: xs)) (.BoolOp .Or (a :: b :: rest) pos) := pe_orD ha hb
theorem e_if (hc : JT X W xc c) (ha : JE X W xa a) (hb : JE X W xb b) : JE X W (.ife xc xa xb) (.IfExp c a b pos) := pe_ifD hc ha hb
/-! ### calls -/
theorem e_call {x : Str} {ms : List Bool} {f : Fn} {j : Nat} (c : Cq X W k) (F : HasFn X.prog X.w X.K X.mg X.base j x ms f) (ha : JLA X W ms xs (e :: es)) (hk : decide (j ≤ k) = true := by rfl) (hl : xs.length = ms.length := by rfl) (hg : Gl X x := by rfl) (hdb : (x == ("__debug__" : Str)) = false := by decide)
    (he : starEach (e :: es) X.env = (false, eval e X.env) :: starEach es X.env := by rfl) (hpl : (backTo pos (starEach es X.env)).any (·.1) = false := by rfl) : JE X W (.call x ms f xs) (.Call (.Name x p) (e :: es) [] pos) := pe_callF F c.room (of_decide_eq_true hk) c.tk hg hdb hl ha he hpl
theorem e_call0 {x : Str} {f : Fn} {j : Nat} (c : Cq X W k) (F : HasFn X.prog X.w X.K X.mg X.base j x [] f) (hk : decide (j ≤ k) = true := by rfl) (hg : Gl X x := by rfl) (hdb : (x == ("__debug__" : Str)) = false := by decide) : JE X W (.call x [] f []) (.Call (.Name x p) [] [] pos) := pe_callF0 F c.room (of_decide_eq_true hk) c.tk hg hdb rfl
theorem e_bi {x : Str} {g : List D → Option OT} (hb : HasBi X x g) (ha : JLO X W xs (e :: es)) (hg : Gl X x := by rfl) (hdb : (x == ("__debug__" : Str)) = false := by decide)
    (he : starEach (e :: es) X.env = (false, eval e X.env) :: starEach es X.env := by rfl) (hpl : (backTo pos (starEach es X.env)).any (·.1) = false := by rfl) : JE X W (.bi x g xs) (.Call (.Name x p) (e :: es) [] pos) := pe_biD hb hg hdb ha he hpl
theorem e_isi {T : String} {m tn : Str} (h0 : X.mg "isinstance" = none) (h1 : X.mg tn = none) (ha : JO X W x e) (hx : tn ≠ "__name__" := by decide) (hT : bootBuiltins tn = some (.type T) := by rfl) (hg : Gl X "isinstance" := by rfl) (hgT : Gl X tn := by rfl) (hdT : (tn == ("__debug__" : Str)) = false := by decide)
    (he : starEach [e, .Name tn p2] X.env = (false, eval e X.env) :: starEach [.Name tn p2] X.env := by rfl) (he2 : starEach [.Name tn p2] X.env = [(false, eval (.Name tn p2) X.env)] := by rfl) (hpl : (backTo pos (starEach [.Name tn p2] X.env)).any (·.1) = false := by rfl) :
    JE X W (.me m (isiD T) x []) (.Call (.Name "isinstance" p) [e, .Name tn p2] [] pos) := pe_isi hx hT h0 h1 hg hgT hdT ha he he2 hpl
/-! ### targets, what is walked, comprehensions -/
theorem g_nm (i : Nat) {x : Str} (c : Cq X W k) (hi : X.N[i]? = some x := by rfl) (hx : Loc X.env.scope x := by first | exact Or.inl rfl | exact Or.inr rfl) (hf : X.fn x = true ∨ X.env.scope.names.lookup x = some .local := by first | exact .inl rfl | exact .inr rfl) : JG X (.nm i) (.Name x pos) := by
  unfold JG; exact pg_name c.nd hi hx hf
theorem gs_nil : JGs X [] [] := pgs_nil
theorem gs_cons {t : TGt} {ts : List TGt} (h1 : JG X t e) (h2 : JGs X ts es) (hs : (assignEach (e :: es) X.env).map (·.2) = assign e X.env :: (assignEach es X.env).map (·.2) := by rfl) : JGs X (t :: ts) (e :: es) := pgs_cons h1 h2 hs
theorem g_tp {ts : List TGt} {n : Nat} (c : Cq X W k) (h : JGs X ts es) (hn : (assignEach es X.env).length = ts.length := by rfl) (hst : (assignEach es X.env).findIdx? (·.1) = none := by rfl) : JG X (.tp ts) (.Tuple es n pos) := pg_sq c.calm h hn hst
theorem i_val (h : JE X W x e) : JI X W .val [x] tg e := pi_valD h
theorem i_rng1 (hm : X.mg "range" = none) (h : JE X W x a) (hg : Gl X "range" := by rfl) (hs : starEach [a] X.env = [(false, eval a X.env)] := by rfl) : JI X W .rng1 [x] tg (.Call (.Name "range" p) [a] [] pos) := pi_rng1D hg hm (l_cons h l_nil hs) hs
theorem i_rng2 (hm : X.mg "range" = none) (h : JE X W xa a) (h2 : JE X W xb b) (hg : Gl X "range" := by rfl) (hs : starEach [a, b] X.env = [(false, eval a X.env), (false, eval b X.env)] := by rfl) (hs2 : starEach [b] X.env = [(false, eval b X.env)] := by rfl) (hs3 : starEach [a, b] X.env = (false, eval a X.env) :: starEach [b] X.env := by rfl) :
    JI X W .rng2 [xa, xb] tg (.Call (.Name "range" p) [a, b] [] pos) := pi_rng2D hg hm (l_cons h (l_cons h2 l_nil hs2) hs3) hs hs2
theorem i_enum {elts : List Expr} {kk : Nat} {tpos : Pos} (hm : X.mg "enumerate" = none) (h : JE X W x a) (hg : Gl X "enumerate" := by rfl) (hs : starEach [a] X.env = [(false, eval a X.env)] := by rfl) : JI X W .enum [x] (.Tuple elts kk tpos) (.Call (.Name "enumerate" p) [a] [] pos) := pi_enumD hg hm (l_cons h l_nil hs) hs
theorem i_zip {elts : List Expr} {kk : Nat} {tpos : Pos} (hm : X.mg "zip" = none) (h : JE X W xa a) (h2 : JE X W xb b) (hg : Gl X "zip" := by rfl) (hs : starEach [a, b] X.env = (false, eval a X.env) :: starEach [b] X.env := by rfl) (hs2 : starEach [b] X.env = [(false, eval b X.env)] := by rfl) (hpl : (backTo pos (starEach [b] X.env)).any (·.1) = false := by rfl) :
    JI X W .zip [xa, xb] (.Tuple elts kk tpos) (.Call (.Name "zip" p) [a, b] [] pos) := pi_zipD hg hm (l_cons h (l_cons h2 l_nil hs2) hs) hs hpl
theorem PTs.imp {X : Cx} {cs : List Expr} {t t' : TT} (h : PTs X cs t) (f : ∀ σ H Q, t' σ H Q → t σ H Q) : PTs X cs t' := ⟨fun pins s σ H Q I q => h.run pins s σ H Q I (f σ H Q q)⟩
theorem c_no : JC X W none [] := by
  refine Rx.PTs.imp pts_nil fun σ H Q h => ?_
  obtain ⟨F, e, fp, ss, q⟩ := h
  exact q H F fp Stp.refl ss
theorem c_if (h : JT X W x e) : JC X W (some x) [e] := pts_one h
theorem e_lc {own : List (Str × Nat)} {sc : Scope} {tgt : TGt} {it : ITK} {its : List IE} {cc : Option IE} {ifs : List Expr} (c : Cq X W k) (hi : JI X W it its tg iter) (hg : ∀ (s : Shared) (H : Hp) (C : Addr) (cl : List (Str × Addr)) (fp : List Addr), JG (X.blk s H sc (compEnvC sc cl C X.env) fp) tgt tg)
    (ht : ∀ (s : Shared) (H : Hp) (C : Addr) (cl : List (Str × Addr)) (fp : List Addr), JC (X.blk s H sc (compEnvC sc cl C X.env) fp) W0 cc ifs) (he : ∀ (s : Shared) (H : Hp) (C : Addr) (cl : List (Str × Addr)) (fp : List Addr), JE (X.blk s H sc (compEnvC sc cl C X.env) fp) W0 x elt)
    (ok : blkC X.N X.env.scope sc own = true := by rfl) (hw : (tgt.has.all fun j => (own.map (·.2)).contains j) = true := by rfl) (hs : ∀ x, foldedSetIterable iter X.env x = pure x := by intro _; rfl) : JE X W (.lc tgt it its cc x (own.map (·.2))) (.ListComp elt [⟨tg, iter, ifs, 0⟩] sc pos) := by
  refine PE.imp (pe_lc (g := gOf X.K tgt) (tt := tDb X.K X.mg W0 (semOpt cc)) (te := tD X.K X.mg W0 (sem x).1) c.calm c.nd hi (blkOk_by ok) hg ht he hs) fun σ H Q h => ?_
  exact lc_use hw (by
    obtain ⟨F, e, fp, ss, h⟩ := h
    refine ⟨F, e, fp, ss, ?_⟩
    have h : WP X.K X.mg W σ H F fp ((evs its e).bind fun ts e1 => (M.lift (itemsOf it (OT.views ts)) e1).bind fun xs e2 => lcRun (own.map (·.2)) tgt (semOpt cc) (sem x).1 xs e2) (FinV X.K X.mg H F fp σ Q) := h
    show WP X.K X.mg W σ H F fp (((evs its e).bind fun ts e1 => (M.lift (itemsOf it (OT.views ts)) e1)).bind fun xs e2 => lcRun (own.map (·.2)) tgt (semOpt cc) (sem x).1 xs e2) (FinV X.K X.mg H F fp σ Q)
    cases hm : evs its e with
    | bad => rw [hm] at h; exact h
    | exn y e1 => rw [hm] at h; exact h
    | ok ts e1 => rw [hm] at h; exact h)
/-! ### statements -/
theorem s_nil : JSs X W P [] [] := pss_nilD
theorem s_cons {st : Stmt} {r : List Stmt} {s : IS} {ss : List IS} (h1 : JS X W P s st) (h2 : JSs X W P ss r) : JSs X W P (s :: ss) (st :: r) := pss_consD h1 h2
theorem s_asg (j : Nat) {x : Str} {pos' : Pos} {y : IE} (c : Cq X W k) (he : JE X W y e) (hP : P j = false := by rfl) (hi : X.N[j]? = some x := by rfl) (hx : Loc X.env.scope x := by first | exact Or.inl rfl | exact Or.inr rfl) (hs : swapsWith e (some (.Name x pos')) pos.line X.env = pure false := by rfl) (hf : X.fn x = true ∨ X.env.scope.names.lookup x = some .local := by first | exact .inl rfl | exact .inr rfl) :
    JS X W P (.asg j y) (.Assign [.Name x pos'] e pos) := ps_asgD hP (ps_set c.nd hi hx he hs hf) fun _ _ _ h => h
/-- y = [e for ..] on one row -/
theorem s_lc (j : Nat) {y : Str} {own : List (Str × Nat)} {sc : Scope} {tgt : TGt} {it : ITK} {its : List IE} {cc : Option IE} {ifs : List Expr} {py spos : Pos} (c : Cq X W k) (hi : JI X W it its tg iter) (hg : ∀ (s : Shared) (H : Hp) (C : Addr) (cl : List (Str × Addr)) (fp : List Addr), JG (X.blk s H sc (compEnvC sc cl C X.env) fp) tgt tg)
    (ht : ∀ (s : Shared) (H : Hp) (C : Addr) (cl : List (Str × Addr)) (fp : List Addr), JC (X.blk s H sc (compEnvC sc cl C X.env) fp) W0 cc ifs) (he : ∀ (s : Shared) (H : Hp) (C : Addr) (cl : List (Str × Addr)) (fp : List Addr), JE (X.blk s H sc (compEnvC sc cl C X.env) fp) W0 x elt)
    (hk : X.env.scope.kind = .function := by rfl) (hP : P j = false := by rfl) (hy : X.N[j]? = some y := by rfl) (hyl : X.env.scope.names.lookup y = some .local := by rfl) (hl : (py.line == pos.line) = true := by rfl) (ha : (sc.names.any fun (n, k) => n == y && (k == .local || k == .cell)) = false := by decide +kernel) (ok : blkC X.N X.env.scope sc own = true := by rfl) (hw : (tgt.has.all fun j => (own.map (·.2)).contains j) = true := by rfl) (hs : ∀ x, foldedSetIterable iter X.env x = pure x := by intro _; rfl) :
    JS X W P (.asg j (.lc tgt it its cc x (own.map (·.2)))) (.Assign [.Name y py] (.ListComp elt [⟨tg, iter, ifs, 0⟩] sc pos) spos) := by
  refine ps_asgD hP (ps_setLc (g := gOf X.K tgt) (tt := tDb X.K X.mg W0 (semOpt cc)) (te := tD X.K X.mg W0 (sem x).1) c.calm c.nd hy hyl (sw_true hk hyl hl ha) hi (blkOk_by ok) hg ht he hs) fun σ H Q h => ?_
  exact lc_use hw (by
    obtain ⟨F, e, fp, ss, h⟩ := h
    refine ⟨F, e, fp, ss, ?_⟩
    have h : WP X.K X.mg W σ H F fp ((evs its e).bind fun ts e1 => (M.lift (itemsOf it (OT.views ts)) e1).bind fun xs e2 => lcRun (own.map (·.2)) tgt (semOpt cc) (sem x).1 xs e2) (FinV X.K X.mg H F fp σ Q) := h
    show WP X.K X.mg W σ H F fp (((evs its e).bind fun ts e1 => (M.lift (itemsOf it (OT.views ts)) e1)).bind fun xs e2 => lcRun (own.map (·.2)) tgt (semOpt cc) (sem x).1 xs e2) (FinV X.K X.mg H F fp σ Q)
    cases hm : evs its e with
    | bad => rw [hm] at h; exact h
    | exn y e1 => rw [hm] at h; exact h
    | ok ts e1 => rw [hm] at h; exact h)
theorem s_asgT {tgt : TGt} {y : IE} (he : JE X W y e) (hg : JG X tgt tg) (hP : (tgt.has.all fun j => !P j) = true := by rfl) (hs : swapsWithSole [tg] e pos.line X.env = pure false := by rfl) (hw : swappedStores [tg] e X.env = pure none := by rfl)
    (h1 : (assignEach [tg] X.env).map (·.2) = [assign tg X.env] := by rfl) : JS X W P (.asgT tgt y) (.Assign [tg] e pos) := ps_asgTD hP (ps_asg he hg hs hw h1) fun _ _ _ h => h
theorem s_sto (j : Nat) {y yk : IE} {x : Str} {i : Expr} {p3 : Pos} (c : Cq X W k) (hk : JO X W yk i) (he : JE X W y e) (ho : PE X (.Name x p) (tVar j)) 
    (ha : ∀ v, assign (.Subscript (.Name x p) i p3) X.env v = (do
      let ov ← holding [v] (eval (.Name x p) X.env)
      let iv ← holding [v, ov] (eval i X.env)
      standAt p3
      holding [v, ov, iv] (setItem ov iv v)
      release [v, ov, iv] []) := by intro _; rfl)
    (hs : swapsWithSole [.Subscript (.Name x p) i p3] e pos.line X.env = pure false := by rfl) (hw : swappedStores [.Subscript (.Name x p) i p3] e X.env = pure none := by rfl)
    (h1 : (assignEach [.Subscript (.Name x p) i p3] X.env).map (·.2) = [assign (.Subscript (.Name x p) i p3) X.env] := by rfl) : JS X W P (.sto j [] yk y) (.Assign [.Subscript (.Name x p) i p3] e pos) :=
  ps_stoD (ps_asg he (pg_sub ho hk (set_both c.u1) ha) hs hw h1) fun _ _ _ h => h
theorem s_app (j : Nat) {y : IE} {x : Str} {apos cpos : Pos} (ho : PE X (.Name x p) (tVar j)) (he : JE X W y e)
    (hs : swapsWith (.Call (.Attribute (.Name x p) "append" apos) [e] [] cpos) none pos.line X.env = pure false := by rfl)
    (hbase : attributeBase (.Name x p) "append" X.env (eval (.Name x p) X.env) = eval (.Name x p) X.env := by rfl)
    (hline : (apos.endLine == cpos.line) = true := by rfl) (hst : starEach [e] X.env = (false, eval e X.env) :: starEach [] X.env := by rfl)
    (hfew : ((backTo cpos (starEach [e] X.env)).all (fun x => !x.1) && (backToKw cpos (keywordEach [] X.env)).all (fun x => x.1.isSome)
      && decide ([e].length + ([] : List Keyword).length + (if ([] : List Keyword).isEmpty then 0 else 1) < 30)) = true := by rfl) : JS X W P (.app j [] y) (.Expr (.Call (.Attribute (.Name x p) "append" apos) [e] [] cpos) pos) :=
  ps_appD (ps_expr (pe_bm PySem.F.plainAttrs_list PySem.F.slot_list_append PySem.F.type_list_append mt_append ho (pa_cons he pa_nil hst) hbase hfew hline hst) hs) fun _ _ _ h => h
theorem s_ext (j : Nat) {y : IE} {x : Str} {apos cpos : Pos} (ho : PE X (.Name x p) (tVar j)) (he : JE X W y e)
    (hs : swapsWith (.Call (.Attribute (.Name x p) "extend" apos) [e] [] cpos) none pos.line X.env = pure false := by rfl)
    (hbase : attributeBase (.Name x p) "extend" X.env (eval (.Name x p) X.env) = eval (.Name x p) X.env := by rfl)
    (hline : (apos.endLine == cpos.line) = true := by rfl) (hst : starEach [e] X.env = (false, eval e X.env) :: starEach [] X.env := by rfl)
    (hfew : ((backTo cpos (starEach [e] X.env)).all (fun x => !x.1) && (backToKw cpos (keywordEach [] X.env)).all (fun x => x.1.isSome)
      && decide ([e].length + ([] : List Keyword).length + (if ([] : List Keyword).isEmpty then 0 else 1) < 30)) = true := by rfl) : JS X W P (.ext j [] y) (.Expr (.Call (.Attribute (.Name x p) "extend" apos) [e] [] cpos) pos) :=
  ps_extD (ps_expr (pe_bm PySem.F.plainAttrs_list PySem.F.slot_list_extend PySem.F.type_list_extend mt_extend ho (pa_cons he pa_nil hst) hbase hfew hline hst) hs) fun _ _ _ h => h
theorem s_ex {y : IE} (he : JE X W y e) (hs : swapsWith e none pos.line X.env = pure false := by rfl) : JS X W P (.ex y) (.Expr e pos) := ps_exD (ps_expr he hs) fun _ _ _ h => h
theorem s_ret {y : IE} (he : JE X W y e) : JS X W P (.ret y) (.Return (some e) pos) := ps_retD he
theorem s_retN : JS X W P .retN (.Return none pos) := ps_retND
theorem s_brk : JS X W P .brk (.Break pos) := ps_brkD
theorem s_cont : JS X W P .cont (.Continue pos) := ps_contD
theorem s_pass : JS X W P .pass (.Pass pos) := ps_passD
theorem s_if {a b : List Stmt} {sa sb : List IS} {y : IE} (hc : JT X W y c) (ha : JSs X W P sa a) (hb : JSs X W P sb b) : JS X W P (.iff y sa sb) (.If c a b pos) := ps_iffD hc ha hb
theorem s_for {tgt : TGt} {it : ITK} {its : List IE} {body : List Stmt} {sb : List IS} (c : Cq X W k) (hp : PassesOwn (model X.prog X.w) X.A X.env X.xe) (hi : JI X W it its tg iter) (hg : JG X tgt tg) (hb : JSs X W P sb body) (hP : (tgt.has.all fun j => !P j) = true := by rfl) (hs : ∀ x, foldedSetIterable iter X.env x = pure x := by intro _; rfl) :
    JS X W P (.for_ tgt it its sb) (.For tg iter body [] pos) := ps_forD (body := body) hP (ps_for hp c.calm hi hg hb hs)
theorem s_whl {n : Nat} {y : IE} {body : List Stmt} {sb : List IS} (hp : PassesOwn (model X.prog X.w) X.A X.env X.xe) (hc : JT X W y c) (hb : JSs X W P sb body) : JS X W P (.whl n y sb) (.While c body [] pos) := ps_whlD hp hc hb
end
end Rx
end

section
/-! Rx, part 14: a def; the law's own end. -/
namespace Rx
open PySem PySem.Spec PyProof.Rows L2
section
variable {K : PySem.W.Frag} {mg : Str → Option Value} {H F : Hp}
theorem EvR.len : ∀ {σ : L2.St} {e : Ev} {fp : List Addr}, EvR K mg H F σ e fp → e.length = σ.length
  | _, _, _, .nil => rfl
  | _, _, _, .cons _ r _ => congrArg (· + 1) (EvR.len r)
theorem EvR.pad (n : Nat) : ∀ {σ : L2.St} {e : Ev} {fp : List Addr}, EvR K mg H F σ e fp → EvR K mg H F (σ ++ List.replicate n none) (e ++ List.replicate n none) fp
  | _, _, _, .nil => by
    induction n with
    | zero => exact .nil
    | succ n ih => exact .cons (fp := []) (fps := []) .no ih fun _ z => nomatch z
  | _, _, _, .cons s r d => .cons s (EvR.pad n r) d
theorem keep_ok : ∀ {ms : List Bool} {vs : List V} {σ : L2.St} {e : Ev} {fp : List Addr}, EvR K mg H F σ e fp → vs.length = ms.length → (∀ i : Nat, ms[i]? = some true → σ[i]? = (vs.map some)[i]?) →
    ∃ fpo, EvR K mg H F (vs.map some) (keepO ms e) fpo ∧ ∀ a ∈ fpo, a ∈ fp
  | [], [], σ, e, fp, r, _, _ => ⟨[], by cases e <;> exact .nil, fun _ z => nomatch z⟩
  | [], _ :: _, _, _, _, _, h, _ => by cases h
  | _ :: _, [], _, _, _, _, h, _ => by cases h
  | m :: ms, v :: vs, _, _, _, .nil, h1, h3 => by
    obtain ⟨fpo, k1, k2⟩ := keep_ok (ms := ms) (vs := vs) (σ := []) (e := []) .nil (by simpa using h1) fun i hi => by simpa using h3 (i + 1) (by simpa using hi)
    have e1 : keepO (m :: ms) [] = none :: keepO ms [] := by cases m <;> rfl
    rw [e1]
    exact ⟨fpo, .cons (fp := []) (fps := fpo) .no k1 (fun _ z => nomatch z), k2⟩
  | m :: ms, v :: vs, _, _, _, .cons (s := s) (o := o) (fp := g) (fps := gs) sl r d, h1, h3 => by
    obtain ⟨fpo, k1, k2⟩ := keep_ok (ms := ms) (vs := vs) r (by simpa using h1) fun i hi => by simpa using h3 (i + 1) (by simpa using hi)
    cases m with
    | true =>
      have e0 : s = some v := by simpa using h3 0 rfl
      subst e0
      exact ⟨g ++ fpo, .cons sl k1 fun a ha q => d a ha (k2 a q), fun a ha => (List.mem_append.mp ha).elim (fun z => List.mem_append_left _ z) fun z => List.mem_append_right _ (k2 a z)⟩
    | false => exact ⟨fpo, .cons (fp := []) (fps := fpo) .no k1 (fun _ z => nomatch z), fun a ha => List.mem_append_right _ (k2 a ha)⟩
end
section
variable {P : Program} {w : World} {K : PySem.W.Frag} {mg : Str → Option Value} {base : Heap}
theorem HasFn.mono {j k : Nat} {x : Str} {ms : List Bool} {f : Fn} (h : HasFn P w K mg base j x ms f) (hk : j ≤ k) : HasFn P w K mg base k x ms f := by
  obtain ⟨fa, fd, ps, F, r⟩ := h.ex
  exact ⟨fa, fd, ps, F.mono hk, r⟩
/-- f promises more than g -/
def Fine (f g : Fn) : Prop := ∀ as, g as ≠ .bad → f as = g as
theorem HasFn.imp {k : Nat} {x : Str} {ms : List Bool} {f g : Fn} (h : HasFn P w K mg base k x ms f) (hf : Fine f g) : HasFn P w K mg base k x ms g := by
  obtain ⟨fa, fd, ps, F, r⟩ := h.ex
  refine ⟨fa, fd, ps, F.imp fun vs H Q E q => ?_, r⟩
  obtain ⟨h0, F, as, fp, h1, h2, h3, h4⟩ := q
  refine ⟨h0, F, as, fp, h1, h2, h3, ?_⟩
  cases hg : g as with
  | bad => rw [hg] at h4; exact h4.elim
  | ok r outs => rw [hf as (by rw [hg]; exact fun z => nomatch z), hg]; rw [hg] at h4; exact h4
  | exn r outs => rw [hf as (by rw [hg]; exact fun z => nomatch z), hg]; rw [hg] at h4; exact h4
def prot (ms : List Bool) (i : Nat) : Bool := ms.getD i false
theorem fn_ok0 {x qual : Str} {st : Stmt} {f : Addr} {fd : FuncData} {N ps : List Str} {k : Nat} {d : Def} (Fu : Fun K x qual st f fd) (S : FnScope N ps (defScope st)) (hn : d.n = N.length) (hp : d.ms.length = ps.length)
    (body : ∀ (cdv : Value) (A : Around) (outer : List Env) (s : Shared) (H : Hp) (E : XK), Cq (cxOf (L2.CX P w) P w K mg base N qual (defScope st) f cdv A outer s H E) (fun c dd _ H' => E c dd H') k →
      PassesOwn (model P w) (cxOf (L2.CX P w) P w K mg base N qual (defScope st) f cdv A outer s H E).A (cxOf (L2.CX P w) P w K mg base N qual (defScope st) f cdv A outer s H E).env (cxOf (L2.CX P w) P w K mg base N qual (defScope st) f cdv A outer s H E).xe →
      JSs (cxOf (L2.CX P w) P w K mg base N qual (defScope st) f cdv A outer s H E) (fun c dd _ H' => E c dd H') (prot d.ms) d.body (defBody st)) : FnOk P w K mg base (L2.CX P w) (k + 1) f fd ps (spF K mg d.ms d.fn) := by
  have hpre : ps.length ≤ N.length := by have := congrArg List.length S.pre; rw [List.length_take] at this; omega
  refine Fu.okX S (fun vs H Q E h => h.1.trans hp) (fun cdv A outer s H vs Q E hr h => ?_)
  refine ⟨_, body cdv A outer s H E ⟨hr, takes_of rfl rfl rfl rfl, rfl, S.nd⟩ (passes_of rfl), ?_⟩
  obtain ⟨hl, F, as, fp, le, ev, ow, h⟩ := h
  have hal : as.length = vs.length := by simpa using ev.len
  have est : L2.start N vs = vs.map some ++ List.replicate (d.n - d.ms.length) none := by unfold L2.start; rw [hn, hl]
  have ev1 : EvR K mg H F (L2.start N vs) (as ++ List.replicate (d.n - d.ms.length) none) fp := by rw [est]; exact ev.pad _
  have big : ∀ {σ : L2.St} {e : Ev} {H' F' : Hp} {fp' : List Addr}, Pr (prot d.ms) (L2.start N vs) σ → EvR K mg H' F' σ e fp' → ∃ fpo, EvR K mg H' F' (vs.map some) (keepO d.ms e) fpo ∧ ∀ a ∈ fpo, a ∈ fp' := fun {σ e H' F' fp'} pr r =>
    keep_ok r hl fun i hi => by
      have h1 : prot d.ms i = true := by unfold prot; rw [List.getD_eq_getElem?_getD, hi]; rfl
      rw [pr i h1, est]
      have hi2 : i < d.ms.length := (List.getElem?_eq_some_iff.mp hi).1
      rw [List.getElem?_append_left (by rw [List.length_map, hl]; exact hi2)]
  refine ⟨F, _, fp, ⟨le, ev1, ow⟩, ?_⟩
  unfold Def.fn endOf at h
  cases hr : run d.body (as ++ List.replicate (d.n - d.ms.length) none) with
  | bad => rw [hr] at h; exact h.elim
  | brk e => rw [hr] at h; exact h.elim
  | ct e => rw [hr] at h; exact h.elim
  | nx e =>
    rw [hr] at h
    intro σ' H' F' fp' st ss pr
    obtain ⟨fpo, k1, k2⟩ := big pr ss.env
    exact h .non H' F' fpo [] (st.sub k2) ss.le k1 (.fz .non) (fun _ z => nomatch z) (fun a ha => ss.own a (k2 a ha)) fun _ z => nomatch z
  | ret t e =>
    rw [hr] at h
    intro v σ' H' F' fpe fpv vp pr
    obtain ⟨fpo, k1, k2⟩ := big pr vp.ss.env
    exact h v H' F' fpo fpv (vp.st.sub fun a ha => (List.mem_append.mp ha).elim (fun z => List.mem_append_left _ z) fun z => List.mem_append_right _ (k2 a z)) vp.ss.le k1 vp.val (fun a ha q => vp.dis a ha (k2 a q)) (fun a ha => vp.ss.own a (k2 a ha)) vp.own
  | exn x e =>
    rw [hr] at h
    intro cls dd σ' H' F' fp' st ss pr ex
    obtain ⟨fpo, k1, k2⟩ := big pr ss.env
    exact h cls dd H' F' fpo (st.sub k2) ss.le k1 (fun a ha => ss.own a (k2 a ha)) ex
theorem fn_ok {x qual : Str} {st : Stmt} {f : Addr} {fd : FuncData} {N ps : List Str} {k : Nat} {d : Def} (Fu : Fun K x qual st f fd) (S : FnScope N ps (defScope st)) (hm : mg x = some (.ref f)) (hn : d.n = N.length) (hp : d.ms.length = ps.length)
    (hb : ∀ (kV doc pm : Value) (an : Option Addr) (cdv ct : Value) (us : List Value), us.length = ps.length → bindArgs (PySem.W.fnOf x qual (defArgs st) (defBody st) (defScope st) .none kV doc pm an cdv ct) ⟨us, []⟩ = pure (ps.zip us))
    (body : ∀ (cdv : Value) (A : Around) (outer : List Env) (s : Shared) (H : Hp) (E : XK), Cq (cxOf (L2.CX P w) P w K mg base N qual (defScope st) f cdv A outer s H E) (fun c dd _ H' => E c dd H') k →
      PassesOwn (model P w) (cxOf (L2.CX P w) P w K mg base N qual (defScope st) f cdv A outer s H E).A (cxOf (L2.CX P w) P w K mg base N qual (defScope st) f cdv A outer s H E).env (cxOf (L2.CX P w) P w K mg base N qual (defScope st) f cdv A outer s H E).xe →
      JSs (cxOf (L2.CX P w) P w K mg base N qual (defScope st) f cdv A outer s H E) (fun c dd _ H' => E c dd H') (prot d.ms) d.body (defBody st)) : HasFn P w K mg base (k + 1) x d.ms d.fn :=
  ⟨f, fd, ps, fn_ok0 Fu S hn hp body, hm, Fu.kp, Fu.binds hb⟩
/-- nothing is promised -/
theorem fn_none {x qual : Str} {st : Stmt} {f : Addr} {fd : FuncData} {N ps : List Str} {k : Nat} {ms : List Bool} (Fu : Fun K x qual st f fd) (S : FnScope N ps (defScope st)) (hm : mg x = some (.ref f))
    (hb : ∀ (kV doc pm : Value) (an : Option Addr) (cdv ct : Value) (us : List Value), us.length = ps.length → bindArgs (PySem.W.fnOf x qual (defArgs st) (defBody st) (defScope st) .none kV doc pm an cdv ct) ⟨us, []⟩ = pure (ps.zip us)) : HasFn P w K mg base k x ms (fun _ => .bad) :=
  ⟨f, fd, ps, ⟨fun vs H Q E h => (by obtain ⟨_, _, _, _, _, _, _, h⟩ := h; exact h.elim), fun A outer s H args us vs Q E hr he hb' hv h => (by obtain ⟨_, _, _, _, _, _, _, h⟩ := h; exact h.elim)⟩, hm, Fu.kp, Fu.binds hb⟩
/-! ### the law's own end -/
def lkI (ns : List Int) : D := .lk (ns.map D.int)
theorem DRs.ints {F : Hp} : ∀ (ns : List Int), DRs K mg F (ns.map V.int) (ns.map D.int)
  | [] => .nil
  | n :: ns => .cons (.int n) (DRs.ints ns)
/-- what a law's def promises: True, for every script -/
def spLaw (K : PySem.W.Frag) : Sp := fun vs H Q E => ∃ (a : Addr) (ns : List Int), vs = [.ref a] ∧ SqL K H a (ns.map V.int) ∧ ns.length ≤ 63 ∧ (∀ z ∈ ns, Builtin.Int.intBits z ≤ 1048576) ∧ ∀ H', Q (.bl true) H'
theorem law_end {f : Fn} {vs : List V} {H : Hp} {Q : VK} {E : XK} (h : spLaw K vs H Q E) (hf : ∀ ns : List Int, ns.length ≤ 63 → (∀ z ∈ ns, Builtin.Int.intBits z ≤ 1048576) → ∃ o, f [some (.fz (lkI ns))] = .ok (.fz (.bl true)) o) : spF K mg [false] f vs H Q E := by
  obtain ⟨a, ns, rfl, hS, hl, hb, q⟩ := h
  refine ⟨rfl, fun b => if b = a then H a else none, [some (.fz (lkI ns))], [], fun b o q => ?_, ?_, fun _ z => (nomatch z), ?_⟩
  · by_cases e : b = a
    · subst e; simpa using q
    · simp [e] at q
  · refine .cons (fp := []) (fps := []) (.so (.fz (.lk (vs := ns.map V.int) ?_ ?_ (DRs.ints ns)))) .nil fun _ z => nomatch z
    · rcases hS with (h | ⟨o, h⟩) | h
      · exact .inl (.inl (by simpa using h))
      · exact .inl (.inr ⟨o, by simpa using h⟩)
      · exact .inr h
    · rw [List.length_map, sizeLine_eq]; omega
  · obtain ⟨o, e⟩ := hf ns hl hb
    rw [e]
    intro v H' F' fpo fpv _ _ _ ov _ _ _
    cases ov with
    | fz h => cases h; exact q _
/-! ### what stands in the module -/
theorem dr_tup {a : Addr} {dd : Option Addr} {its : Array Value} {n : Nat} {sl : Array (Option Value)} {vs : List V} {ds : List D} (l : K.lookup a = some ⟨.type "tuple", dd, .seq its n, sl⟩) (hv : Vals vs its.toList) (hz : decide (its.size ≤ sizeMax) = true) (r : ∀ F, DRs K mg F vs ds) : ∀ F, DR K mg F (.ref a) (.tup ds) := fun F =>
  .tup (.inr ⟨_, its, n, l, rfl, rfl, of_decide_eq_true hz, hv⟩) (by rw [hv.length, Array.length_toList]; exact of_decide_eq_true hz) (r F)
theorem dr_str {F : Hp} {z : Str} {s : List Nat} (h : z = strOf s) (hl : (decide (s.length ≤ sizeMax) && s.all fun c => decide (c < 0x110000)) = true) : DR K mg F (.str z) (.str s) := by
  subst h
  rw [Bool.and_eq_true, List.all_eq_true] at hl
  exact .str (of_decide_eq_true hl.1) fun c hc => of_decide_eq_true (hl.2 c hc)
end
end Rx
end

section
set_option maxHeartbeats 2000000
/-! The program's own error: RightsError(reason), whose __init__ says super().__init__(reason) and stores reason. -/
namespace PySem
namespace ReX
open PySem.W PySem.Calls PyProof.Rows PySem.HandSPX
/-- where the text stands: its first line -/
def iA (l : Nat) : Arguments := { posonlyargs := [], args := [{ arg := "self", annotation := none, pos := ⟨l, 17, l, 21⟩ }, { arg := "reason", annotation := none, pos := ⟨l, 23, l, 29⟩ }], vararg := none, kwonlyargs := [], kw_defaults := [], kwarg := none, defaults := [] }
def iB (l : Nat) : List Stmt := [.Expr (.Call (.Attribute (.Call (.Name "super" ⟨l + 1, 8, l + 1, 13⟩) [] [] ⟨l + 1, 8, l + 1, 15⟩) "__init__" ⟨l + 1, 8, l + 1, 24⟩) [.Name "reason" ⟨l + 1, 25, l + 1, 31⟩] [] ⟨l + 1, 8, l + 1, 32⟩) ⟨l + 1, 8, l + 1, 32⟩, .Assign [.Attribute (.Name "self" ⟨l + 2, 8, l + 2, 12⟩) "reason" ⟨l + 2, 8, l + 2, 19⟩] (.Name "reason" ⟨l + 2, 22, l + 2, 28⟩) ⟨l + 2, 8, l + 2, 28⟩]
def iS : Scope := { kind := .function, names := [(PySem.Str.ofString "self", .local), (PySem.Str.ofString "reason", .local), (PySem.Str.ofString "__class__", .free), (PySem.Str.ofString "super", .globalImplicit)], isGenerator := false, isCoroutine := false, more := [] }
abbrev veTail : List Value := [.type "ValueError", .type "Exception", .type "BaseException", .type "object"]
/-- what the written part says of RightsError, at C, and of its __init__, at fI -/
structure Txt (K : Frag) (mg : Str → Option Value) (P : Program) (C fI : Addr) : Prop where
  gC : mg "RightsError" = some (.ref C)
  gS : mg "super" = none
  cls : ∃ nm q N bs sn sub ab col dd k0 k1 k2 k3 k5, K.lookup C = some (excClassObj nm q C N bs veTail true sn sub ab col dd k0 k1 k2 k3 k5 "ValueError.__new__")
  sa : findIn K (.ref C) "__setattr__" = some (some (.builtin "object.__setattr__"))
  ga : findIn K (.ref C) "__getattribute__" = some (some (.builtin "BaseException.__getattribute__"))
  gg : findIn K (.ref C) "__getattr__" = some none
  noN : findIn K (.ref C) "reason" = some none
  iC : findIn K (.ref C) "__init__" = some (some (.ref fI))
  tC : typeIn K (.ref fI) = some (.type "function")
  kC : keepIn K (.ref C) = true
  exC : subIn K (.ref C) (.type "BaseException") = some true
  veC : subIn K (.ref C) (.type "ValueError") = some true
  tyC : typeIn K (.ref C) = some (.type "type")
  hdC : hasDictIn K C = true
  te : exmOne K (.ref C) (.ref C) = some true
  sup : ks_superIn K C C "__init__" = some (some (.builtin "ValueError.__init__"))
  mro : mroIn K C (.ref C) = some true
  any : nsIn K cStatics "thirdparty.any" = some none
  top : (P.main.scope.names.lookup ("super" : Str)).isSome = false
  fn : ∃ (oc : Value) (od : Option Addr) (doc pm : Value) (an : Option Addr) (cda cc : Addr) (ct : Value) (osl : Array (Option Value)),
    K.lookup fI = some ⟨oc, od, .func (ksFn "__init__" "RightsError.__init__" (iA 4) (iB 4) iS .none .none doc pm an (.ref cda) ct cc), osl⟩ ∧ codeIn K (.ref cda) "RightsError.__init__" = true ∧
    (∃ cl cld csl, K.lookup cc = some ⟨cl, cld, .cell (some (.ref C)), csl⟩) ∧
    ∃ ccl cdd vs ccs file tf, K.lookup cda = some ⟨ccl, cdd, .fields vs, ccs⟩ ∧ vs[2]? = some (.str file tf) ∧ ((P.main.file : Str) == file) = true
theorem one_size (v : Value) : [v].length ≤ sizeLine := by
  rw [sizeLine_eq]
  exact (by decide : 1 ≤ 16777216)
/-- what __init__ leaves of a fresh exception at x -/
structure InitEnd (h h' : Heap) (x C dx : Addr) (v : Value) : Prop where
  keep : ∀ b o, b ≠ x → h.get? b = some o → h'.get? b = some o
  obj : ∃ t1, h'.get? x = some { cls := .ref C, dict := some dx, data := .fields #[.ref t1, .none, .none, .none, .bool false, .none] }
  dbig : h.objs.size ≤ dx
  dne : dx ≠ x
  ns : h'.Ns1 dx (fun y => if y = "reason" then some v else none)
/-- a made RightsError -/
structure OwnMade (h h' : Heap) (e C d : Addr) (v : Value) : Prop where
  keep : ∀ b o, h.get? b = some o → h'.get? b = some o
  new : h.objs.size ≤ e
  obj : ∃ oe vs, h'.get? e = some oe ∧ oe.cls = .ref C ∧ oe.dict = some d ∧ oe.data = .fields vs ∧ vs[1]? = some .none
  dbig : h.objs.size ≤ d
  dne : d ≠ e
  ns : h'.Ns1 d (fun y => if y = "reason" then some v else none)
section
variable {prog : Program} {w : World} {A : Around} {E : Value → Shared → Prop} {R : Result → Shared → Prop} {s : Shared} {K : Frag} {mg mb : Str → Option Value} {C fI : Addr}
theorem ldL {env : Env} {m : Str → Option Value} {x : Str} {pos : Pos} {v : Value} {Q : Value → Shared → Prop} (hn : s.heap.Ns env.locals m) (hv : m x = some v) (h : Q v s)
    (hk : env.scope.kind = .function := by rfl) (hl : env.kindOf x = some .local := by rfl) (hd : (x == ("__debug__" : Str)) = false := by decide) : wpAny (model prog w) A (eval (.Name x pos) env) Q E s := wpAny_Name (wpAny_loadName_local hk hl hn hv h) hd
/-- super().__init__(..) called: the args are laid anew -/
theorem call_mw {nm q : Str} {N u x t0 : Addr} {bs : List Value} {hdct : Bool} {sn : List Str} {sub : List Value} {ab : Bool} {col : Option Bool} {dd : Option Addr} {k0 k1 k2 k3 k5 : Option Value} {rest : List Value} {hh : Heap} {g : Array GenState} {d : Drawn} {tk : Nat} {os : OsState} {Q : Value → Shared → Prop}
    (hC : hh.get? C = some (excClassObj nm q C N bs veTail hdct sn sub ab col dd k0 k1 k2 k3 k5 "ValueError.__new__")) (he : hh.get? x = some (excO C t0)) (hu : hh.get? u = some (kxs_mw "ValueError.__init__" x)) (hz : rest.length ≤ sizeLine)
    (hq : ∀ h' t1, (∀ b o, b ≠ x → hh.get? b = some o → h'.get? b = some o) → h'.get? x = some (excO C t1) → Q .none ⟨h', g, d, tk, os⟩) :
    wpAny (model prog w) A (call (.ref u) rest) Q E ⟨hh, g, d, tk, os⟩ := by
  have FB := F.excBase_ValueError
  refine wpAny_call (codeAny_of_tree ?_)
  show wpAny _ A.in1 (callAny (.ref u) ⟨rest, []⟩) _ _ _
  simp only [callAny]
  refine wpAny_bind (wpAny_load hu ?_)
  simp only [kxs_mw, show (Value.type "method-wrapper" == Value.type "method" || Value.type "method-wrapper" == Value.type "builtin_function_or_method" || Value.type "method-wrapper" == Value.type "method-wrapper") = true by decide, if_true]
  refine KFB.if_so (by decide) ?_
  refine wpAny_bind (check_bound_init FB.toExcCallFacts hC he rfl ?_)
  refine wpAny_bind (wpAny_pure (wpAny_pure ?_))
  refine ⟨plainId_quiet FB.init.plain _, codeAny_builtin FB.initEntry ?_⟩
  exact exc_init_tree (cls := .ref C) (t0 := t0) (dv := none) (c2 := .none) (c3 := .none) (b4 := .bool false) he hz fun h' k e' _ => hq h' _ k e'
theorem re_init (T : Txt K mg prog C fI) {x t0 : Addr} {v : Value} (X : K.In s.heap) (hg : s.heap.Ns mainGlobals mg) (hb : s.heap.Ns builtinsNs mb) (hmb : mb "super" = some (.type "super")) (hlim : s.heap.NoLimit) (hx : s.heap.get? x = some (excO C t0)) (hnx : K.lookup x = none) (hroom : A.depth < recursionLimit)
    (hq : ∀ h' tk dx, InitEnd s.heap h' x C dx v → R (.ok (.ret .none)) { s with heap := h', toks := tk }) :
    codeAny (model prog w) A (.call (.ref fI) ⟨[.ref x, v], []⟩) R s := by
  obtain ⟨oc, od, doc, pm, an, cda, cc, ct, osl, ho, hcd, ⟨cl, cld, csl, hcell⟩, ccl, cdd, vs, ccs, file, tf, hcode, hvs, hfile⟩ := T.fn
  obtain ⟨nm, q, N, bs, sn, sub, ab, col, dd, k0, k1, k2, k3, k5, hC⟩ := T.cls
  have hcl : clsIn K C = some { name := nm, bases := bs, mro := .ref C :: veTail, ns := N, qualname := q, hasDict := true, slotNames := sn, subclasses := sub, abstract := ab, collection := col, hasDel := false } := by unfold clsIn; rw [hC] <;> rfl
  refine ks_codeAny_call_defAt (fd := ksFn "__init__" "RightsError.__init__" (iA 4) (iB 4) iS .none .none doc pm an (.ref cda) ct cc) (body := iB 4) (binds := [("self", .ref x), ("reason", v)]) hroom (X _ _ ho) rfl hlim (codeRec_of X hcd) rfl (BindsTo.of_eq (by first | rfl | with_unfolding_all rfl)) (fun y hy => by rcases List.mem_cons.mp hy with rfl | hy; (· decide); rcases List.mem_cons.mp hy with rfl | hy; (· decide); rcases List.mem_cons.mp hy with rfl | hy; (· decide); rcases List.mem_cons.mp hy with rfl | hy; (· decide); cases hy) (fun y hy => by rcases List.mem_cons.mp hy with rfl | hy; (· rfl); rcases List.mem_cons.mp hy with rfl | hy; (· rfl); cases hy) (fun h₁ hns hk₁ => ?_)
  have hn : h₁.Ns s.heap.objs.size (fun y => [(("self" : Str), Value.ref x), ("reason", v)].reverse.lookup y) := hns
  have hxL : s.heap.objs.size ≠ x := Nat.ne_of_gt (Heap.lt_size hx)
  have X₁ : K.In h₁ := X.keeps hk₁
  have hx₁ := hk₁ _ _ hx
  obtain ⟨hp, g, d, tk, os⟩ := s
  -- super().__init__(reason)
  refine ks_wpAt_execs_cons (ks_wpAt_Expr_any (ks_wpAt_MethodCall (ks_wpAt_super_base (f := fI) (cc := cda) rfl rfl rfl rfl (X₁ _ _ ho) rfl rfl rfl (X₁ _ _ hcode) rfl hvs hfile T.top ?_)))
  refine ks_loadName_global rfl rfl (loadGlobal_builtin (mg := mg) (mb := mb) (hg.keeps hk₁) T.gS (hb.keeps hk₁) hmb ⟨rfl, ?_⟩)
  refine wpAny_loadName_free rfl rfl rfl ⟨_, X₁ _ _ hcell, rfl⟩ ?_
  refine wpAny_loadName_local rfl rfl hn rfl ?_
  refine ks_wpAny_isType_cls (X₁ _ _ hC) rfl ⟨rfl, ?_⟩
  refine ks_wpAny_call_super (X₁ _ _ hC) rfl hx₁ rfl (fun c e => nomatch e) (looks_mroIn X₁ T.mro) (fun h₂ hso k₂ => ?_)
  have X₂ : K.In h₂ := X₁.keeps k₂
  have hx₂ := k₂ _ _ hx₁
  have hn₂ := hn.keeps k₂
  have hxC : x ≠ C := fun z => by rw [z, hC] at hnx; cases hnx
  have hsup : alongIn K "__init__" veTail = some (some (.builtin "ValueError.__init__")) := by
    have := T.sup
    unfold ks_superIn at this
    rw [hcl] at this
    simpa using this
  have I₂ : InstAt h₂ x (excO C t0) C none := ⟨hx₂, rfl, rfl, trivial⟩
  refine kxs_getMethod kxs_ValueError (l₀ := .ref C :: veTail) (l := veTail) hso (looks_opaque X₂ T.any) (fun A Q E s k q => wpAny_bind ((looks_clsIn X₂ hcl) A _ E s k (wpAny_pure q))) (by simp) X₂ hsup (I₂.type.andThen (looks_subIn X₂ T.veC)) hxC rfl ?_
  have k₃ : ∀ b o, h₂.get? b = some o → (h₂.push (kxs_mw "ValueError.__init__" x)).get? b = some o := fun b o e => Heap.get?_push_of_some _ e
  refine kxs_callWith (i := "ValueError.__init__") (x := x) rfl (evalArgs_plain (Calls.spliced_cons (ldL (hn₂.keeps k₃) (v := v) rfl (Calls.spliced_nil ⟨(Heap.get?_push_at rfl rfl : _ = some (kxs_mw "ValueError.__init__" x)), ?_⟩))))
  refine call_mw (k₃ _ _ (k₂ _ _ (X₁ _ _ hC))) (k₃ _ _ hx₂) (Heap.get?_push_at rfl rfl) (one_size v) fun h₄ t1 k₄ hx₄ => ?_
  have X₄ : K.In h₄ := fun a o e => k₄ a o (fun z => by rw [z, hnx] at e; cases e) (k₃ _ _ (X₂ a o e))
  have hn₄ : h₄.Ns hp.objs.size (fun y => [(("self" : Str), Value.ref x), ("reason", v)].reverse.lookup y) := by
    obtain ⟨oL, es, ep, hL, r⟩ := hn₂.keeps k₃
    exact ⟨oL, es, ep, k₄ _ _ hxL hL, r⟩
  -- self.reason = reason
  refine ks_wpAt_execs_cons (ks_wpAt_Assign_Attr (wpAt_of_wpAny (ldL (v := v) hn₄ rfl (ldL (v := .ref x) hn₄ rfl ?_))))
  refine set_plain X₄ (ox := excO C t1) (od := none) ⟨hx₄, rfl, rfl, trivial⟩ T.sa ?_
  refine exc_osa X₄ hx₄ hcl (show refsVE (.ref C :: veTail) = true from (by decide +kernel : refsVE veTail = true)) rfl T.noN (fun h₅ tk₅ dx k₅ dn dne hx₅ hn₅ => ?_)
  have kk : ∀ b o, b ≠ x → hp.get? b = some o → h₅.get? b = some o := fun b o hb e => k₅ b o hb (k₄ b o hb (k₃ _ _ (k₂ _ _ (hk₁ _ _ e))))
  have z : hp.objs.size < h₁.objs.size := hn.lt
  refine wpAt_of_wpAny (wpAny_execs_nil (hq h₅ tk₅ dx ⟨kk, ⟨_, hx₅⟩, ?_, dne, hn₅⟩))
  have z4 : hp.objs.size < h₄.objs.size := hn₄.lt
  exact Nat.le_of_lt (Nat.lt_of_lt_of_le z4 dn)
theorem re_made (T : Txt K mg prog C fI) {v : Value} (X : K.In s.heap) (hg : s.heap.Ns mainGlobals mg) (hb : s.heap.Ns builtinsNs mb) (hmb : mb "super" = some (.type "super")) (hlim : s.heap.NoLimit) (hroom : A.depth + 1 < recursionLimit)
    (hq : ∀ h' tk e d, OwnMade s.heap h' e C d v → R (.ok (.ret (.ref e))) { s with heap := h', toks := tk }) :
    codeAny (model prog w) A (.call (.ref C) ⟨[v], []⟩) R s := by
  obtain ⟨nm, q, N, bs, sn, sub, ab, col, dd, k0, k1, k2, k3, k5, hC⟩ := T.cls
  obtain ⟨hp, g, dr, tk, os⟩ := s
  have k : ∀ b o, hp.get? b = some o → ((hp.push (kdv_tup [v])).push (excO C hp.objs.size)).get? b = some o := fun b o e => Heap.get?_push_of_some _ (Heap.get?_push_of_some _ e)
  have hget : ((hp.push (kdv_tup [v])).push (excO C hp.objs.size)).get? (hp.objs.size + 1) = some (excO C hp.objs.size) := by heap_get
  have hnx : K.lookup (hp.objs.size + 1) = none := by
    cases e : K.lookup (hp.objs.size + 1) with
    | none => rfl
    | some o =>
      have z : hp.get? (hp.objs.size + 1) = some o := X _ _ e
      exact absurd (Nat.lt_of_succ_lt (Heap.lt_size z)) (Nat.lt_irrefl _)
  refine call_own F.excBase_ValueError (fun X => refsVE_contains X veTail (by decide +kernel)) (X _ _ hC) (looks_findIn X T.iC) (fun self => bind_fn X self T.tC) (one_size v) ?_
  refine re_init (s := ⟨(hp.push (kdv_tup [v])).push (excO C hp.objs.size), g, dr, tk, os⟩) T (X.keeps k) (hg.keeps k) (hb.keeps k) hmb (hlim.keeps k) hget hnx ?_ fun h' tk' dx ⟨k', hx, dn, dne, hns⟩ => ?_
  · show A.depth + 1 < recursionLimit
    exact hroom
  · have old : ∀ b o, hp.get? b = some o → h'.get? b = some o := fun b o e => k' b o (Nat.ne_of_lt (Nat.lt_succ_of_lt (Heap.lt_size e))) (k b o e)
    have z : hp.objs.size + 1 + 1 ≤ dx := by
      first
        | (simpa only [Heap.size_push] using dn)
        | exact dn
        | (have q := dn; rw [Heap.size_push, Heap.size_push] at q; exact q)
    obtain ⟨t1, hx⟩ := hx
    exact ⟨rfl, hq h' tk' (hp.objs.size + 1) dx ⟨old, Nat.le_succ _, ⟨_, _, hx, rfl, rfl, rfl, rfl⟩, Nat.le_trans (Nat.le_trans (Nat.le_succ _) (Nat.le_succ _)) z, dne, hns⟩⟩
end
end ReX
end PySem

namespace L2
open PySem PySem.Spec PyProof.Rows
theorem relO_re {v : V} {v' : Value} (r : RelV v v') (f : Str) : RelO (List.lookup f [(("reason" : Str), v)]) (if f = "reason" then some v' else none) := by
  by_cases hw : f = "reason"
  · subst hw
    rw [if_pos rfl]
    have q : List.lookup ("reason" : Str) [(("reason" : Str), v)] = some v := by simp [List.lookup]
    rw [q]
    exact r
  · rw [if_neg hw]
    have qw : (f == ("reason" : Str)) = false := by simpa using hw
    have q2 : List.lookup f [(("reason" : Str), v)] = none := by simp [List.lookup, qw]
    rw [q2]
    trivial
section
variable {X : Cx} {C fI : Addr}
/-- RightsError(e) -/
def tMkRe (C : Addr) (ta : TA) : St → Hp → XK → Prop := fun σ H Q => ta σ H fun vs H1 => ∃ v, vs = [v] ∧ ∀ d, H1 d = none → Q (.ref C) (some d) (upd H1 d (.xd [(("reason" : Str), v)]))
theorem pmk_re {a : Expr} {ta : TA} {p pos : Pos} {k : Nat} (T : PySem.ReX.Txt X.K X.mg X.prog C fI) (hr : Room k X.A) (hk : 1 ≤ k) (ha : PA X [a] ta) (hg : Gl X "RightsError" := by rfl)
    (he : starEach (a :: []) X.env = (false, eval a X.env) :: starEach [] X.env := by rfl) (hpl : (backTo pos (starEach [] X.env)).any (·.1) = false := by rfl) :
    PMk X (.Call (.Name "RightsError" p) [a] [] pos) (tMkRe C ta) := by
  intro pins s σ H Q I h
  refine wpAny_Call_Name_kw (ld_glob I hg T.gC ?_)
  refine PySem.W.callWith_K (h₀ := X.base) I.ok.mod.kin T.kC (thn (ha.run pos pins s σ H _ I h) fun us s1 hh => ?_) he hpl
  obtain ⟨vs, H1, I1, r1, v, ev, q1⟩ := hh
  subst ev
  refine ⟨I1.kIn, ?_⟩
  cases r1 with
  | cons rv rn =>
    rename_i v' us'
    cases rn
    show wpAny _ _ (call (.ref C) [v']) _ _ _
    have hlim := I1.nolimit
    obtain ⟨mb, hb, hmb⟩ := I1.mod.blt
    have hg1 := I1.mod.glob.keeps I1.bk
    have hb1 := hb.keeps I1.bk
    obtain ⟨hp, g, dr, tk, os⟩ := s1
    refine wpAny_call (PySem.ReX.re_made T I1.kIn hg1 hb1 ((hmb "super" (by decide)).trans rfl) hlim (by have := hr.dp; omega) fun h' tk' e d M => ?_)
    show MkP X pins σ Q (.ref e) ⟨h', g, dr, tk', os⟩
    obtain ⟨oe, fv, hoe, hc, hd, hdat, h1⟩ := M.obj
    have hns := M.ns
    obtain ⟨G', g1, g2⟩ := restrict h' fun b => decide (b ≠ e)
    have gk : ∀ b, b ≠ e → G'.get? b = h'.get? b := fun b hb => g1 b (decide_eq_true hb)
    have ge : G'.get? e = none := g2 e (by simp)
    have old : ∀ b o, hp.get? b = some o → G'.get? b = some o := fun b o q => (gk b (Nat.ne_of_lt (Nat.lt_of_lt_of_le (Heap.lt_size q) M.new))).trans (M.keep b o q)
    have ob : ObjOk X.prog X.w (upd H1 d (.xd [(("reason" : Str), v)])) G' d (.xd [(("reason" : Str), v)]) :=
      ⟨_, hns.at (fun o q => (gk d M.dne).trans q), fun f => relO_re rv f⟩
    have J : Inv X pins σ (upd H1 d (.xd [(("reason" : Str), v)])) ⟨G', g, dr, tk', os⟩ := I1.laid (t' := tk') old M.dbig ob
    refine ⟨e, oe, fv, ⟨G', g, dr, tk', os⟩, _, .ref C, some d, rfl, J, fun b o q => ?_, ge, hoe, ⟨hc, hd⟩, hdat, h1, ?_, rfl, I1.bare, raises_own T.exC T.tyC, q1 d (I1.hok.fresh M.dbig)⟩
    · by_cases hb : b = e
      · have q' : G'.get? b = some o := q
        rw [hb, ge] at q'; cases q'
      · exact (gk b hb).symm.trans q
    · rw [upd_ne (Ne.symm M.dne)]
      exact I1.hok.fresh M.new
/-- err.reason, err the exception that the suite holds (at a; its class cls, its dict d) -/
def tReason (C : Addr) (a : Addr) (cls : Value) (d : Option Addr) (te : TE) : TE := fun σ H Q => te σ H fun x H1 => x = .ref a ∧ cls = .ref C ∧ ∃ (dd : Addr) (v : V), d = some dd ∧ H1 dd = some (.xd [(("reason" : Str), v)]) ∧ Q v H1
theorem pe_reason {a : Addr} {oe : Obj} {cls : Value} {d : Option Addr} {pn : List (Addr × Obj)} {e : Expr} {te : TE} {pos : Pos} (T : PySem.ReX.Txt X.K X.mg X.prog C fI) (hz : Zc cls d oe) (hf : ∃ vs, oe.data = .fields vs) (he : PE (X.suite a ((a, oe) :: pn)) e te)
    (hb : attributeBase e "reason" X.env (eval e X.env) = eval e X.env := by rfl) :
    PE (X.suite a ((a, oe) :: pn)) (.Attribute e "reason" pos) (tReason C a cls d te) := by
  refine ⟨fun pins s σ H Q I h => ?_⟩
  refine attr_of hb (thn (he.run pins s σ H _ I h) fun u s1 hh => ?_)
  obtain ⟨x, H1, I1, rx, ex, ec, dd, v, ed, ea, q⟩ := hh
  subst ex
  obtain rfl : u = Value.ref a := rx
  subst ec
  subst ed
  obtain ⟨ha, _⟩ := I1.pin (a, oe) (List.mem_append_left _ List.mem_cons_self)
  obtain ⟨vs, hd⟩ := hf
  have hx : ObjOk X.prog X.w H1 s1.heap dd (.xd [(("reason" : Str), v)]) := I1.hok dd _ ea
  obtain ⟨mA, hns, hr⟩ := hx
  obtain ⟨od, ho, hl⟩ := lookIn_ns hns
  have l : List.lookup ("reason" : Str) [(("reason" : Str), v)] = some v := by simp [List.lookup]
  obtain ⟨u, hu, ru⟩ := RelO.some_of (v := v) (o := mA "reason") (by rw [← l]; exact hr "reason")
  have J : PySem.W.InstAt s1.heap a oe C (some od) := ⟨ha, hz.1, by unfold PySem.W.notCls; rw [hd] <;> rfl, by rw [hz.2]; exact ho⟩
  exact HandSPX.exc_get I1.kIn J T.ga T.gg T.exC (PySem.W.findObj_own T.hdC T.noN rfl (by rw [hl, hu])) (handed_of ru) ⟨v, H1, I1.tok _, ru, q⟩
end
end L2
end

section
/-! Rx, part 15: the program's own error: raised, caught. -/
namespace Rx
open PySem PySem.Spec PyProof.Rows L2
section
variable {X : Cx} {W : WX} {k : Nat} {P : Nat → Bool} {pos p p2 : Pos} {a b c e elt iter tg : Expr} {es rest : List Expr} {xa xb xc x : IE} {xs : List IE} {C fI : Addr}
theorem s_raise (c : Cq X W k) (T : PySem.ReX.Txt X.K X.mg X.prog C fI) (ha : JE X W x a) (hk : decide (1 ≤ k) = true := by rfl) (hg : Gl X "RightsError" := by rfl)
    (he : starEach (a :: []) X.env = (false, eval a X.env) :: starEach [] X.env := by rfl) (hpl : (backTo pos (starEach [] X.env)).any (·.1) = false := by rfl) :
    JS X W P (.rais "RightsError" reOf [x]) (.Raise (some (.Call (.Name "RightsError" p) [a] [] pos)) none p2) := by
  refine PS.imp (ps_raise c.calm c.tk (pmk_re T c.room (of_decide_eq_true hk) (l_cons ha l_nil he) hg he hpl)) fun D σ H h => ?_
  obtain ⟨F, en, fp, ss, h⟩ := h
  have h : WS X.K X.mg W P D H F fp σ ((evs [x] en).st fun ts e1 => (M.lift (reOf (OT.views ts)) e1).st fun x e1 => .exn x e1) := by
    have h : WS X.K X.mg W P D H F fp σ (((evs [x] en).bind fun ts e1 => M.lift (reOf (OT.views ts)) e1).st fun x e1 => .exn x e1) := h
    cases hm : evs [x] en with
    | bad => rw [hm] at h; exact h
    | ok t e1 => rw [hm] at h; exact h
    | exn t e1 => rw [hm] at h; exact h
  refine tDs_st Stp.refl Pr.refl ss h fun vs ts H1 F1 fpe fpv e1 p h1 => ?_
  obtain ⟨q1, q2, q3⟩ := p.frz
  cases hv : OT.views ts with
  | nil => rw [hv] at h1; exact h1.elim
  | cons d ds =>
    cases ds with
    | cons d2 ds => rw [hv] at h1; exact h1.elim
    | nil =>
      rw [hv] at h1 q3
      cases q3 with
      | cons r1 r2 =>
        rename_i v vs
        cases r2
        refine ⟨v, rfl, fun dd hdd => ?_⟩
        have h1 : WS X.K X.mg W P D H F fp σ (.exn ⟨"RightsError", [("reason", d)]⟩ e1) := h1
        refine h1 (.ref C) (some dd) σ _ (frzF F1 H1 fpv) fpe ((q1.trans (Stp.newO hdd)).sub fun a ha => List.mem_cons_of_mem _ ha) ⟨same_new q2.le hdd, q2.env.keep (Same.refl _) fun a ha o e => by rw [upd_ne (ne_of_none e hdd)]; exact e, q2.own⟩ Pr.refl ⟨C, dd, [("reason", v)], T.gC, rfl, rfl, upd_same, .cons r1 .nil⟩
theorem Cq.tr (c : Cq X W k) {W' : WX} {pn : List (Addr × Obj)} {xe : Value → Shared → Prop} (tk : Takes (X.tr pn xe) W') : Cq (X.tr pn xe) W' k := ⟨c.room, tk, c.calm, c.nd⟩
theorem s_tryR {n : Str} {sb : List IS} {body : List Stmt} {np pos' p3 p4 p5 : Pos} (j : Nat) (c : Cq X W k) (T : PySem.ReX.Txt X.K X.mg X.prog C fI) (hb : ∀ (W' : WX) (pn : List (Addr × Obj)) (xe : Value → Shared → Prop), Cq (X.tr pn xe) W' k → PassesOwn (model X.prog X.w) X.A X.env xe → JSs (X.tr pn xe) W' P sb body)
    (hs : X.stack = X.env :: X.outer := by rfl) (hf : X.env.frame = some X.env.locals := by rfl) (hi : X.N[j]? = some n := by rfl) (hln : X.env.kindOf n = some .local := by rfl) (hv : Vis X.env.scope n := by exact Or.inl rfl) (hg : Gl X "RightsError" := by rfl) (hd : (n == ("__debug__" : Str)) = false := by decide) (hcd : (n == ("__classdict__" : Str)) = false := by decide) :
    JS X W P (.tryR sb "RightsError" j "reason") (.Try body [.ExceptHandler (some (.Name "RightsError" np)) (some n) [.Return (some (.Attribute (.Name n p3) "reason" p4)) p5] pos'] [] [] pos) := by
  refine PS.imp (ps_try_as (i := j) (c := .ref C) (tb := fun W' => tSX X W' P (run sb)) (ts := fun a cls d => tRet (tReason C a cls d (tVar j))) (Wout := W) hs hf c.nd hi hln ⟨hg, by decide, .inl T.gC⟩ c.tk
    (fun W' pn xe tk hp => hb W' pn xe (c.tr tk) hp) fun a oe cls d pn hz hf => pss_one (ps_ret (pe_reason T hz hf (pe_var hi hv hd hcd)))) fun D σ H h => ?_
  obtain ⟨F, en, fp, ss, h⟩ := h
  refine ⟨F, en, fp, ss, ?_⟩
  have h : WS X.K X.mg W P D H F fp σ (tryS "RightsError" (retF j "reason") (run sb en)) := h
  cases hm : run sb en with
  | bad => rw [hm] at h; exact h
  | nx e1 => rw [hm] at h; exact h
  | brk e1 => rw [hm] at h; exact h
  | ct e1 => rw [hm] at h; exact h
  | ret t e1 => rw [hm] at h; exact h
  | exn x e1 =>
    rw [hm] at h
    have h : WS X.K X.mg W P D H F fp σ (if x.cls = "RightsError" then retF j "reason" x.fs e1 else .bad) := h
    by_cases hc : x.cls = "RightsError"
    · rw [if_pos hc] at h
      unfold retF at h
      by_cases hl : j < e1.length
      · rw [if_pos hl] at h
        obtain ⟨xc, xf⟩ := x
        subst hc
        intro cls d σ' H' F' fp' st s1 pr ex
        obtain ⟨C', dd, fs, hC, rfl, rfl, hdd, rf⟩ := ex
        have hC : X.mg "RightsError" = some (.ref C') := hC
        have eC : C' = C := by
          have := hC.symm.trans T.gC
          cases this; rfl
        subst eC
        cases rf with
        | nil => exact h.elim
        | cons r1 r2 =>
          cases r2 with
          | cons r3 r4 => exact h.elim
          | nil =>
            rename_i g v d0 h0
            dsimp only at h hdd
            by_cases hgf : g = "reason"
            · subst hgf
              rw [if_pos rfl] at h
              refine ⟨true, T.te, fun _ a ha => ?_, fun z => nomatch z⟩
              refine ⟨.ref a, ?_, rfl, rfl, dd, v, rfl, hdd, h v σ' H' F' fp' [] ⟨st, s1, .fz r1, (fun _ z => nomatch z), fun _ z => nomatch z⟩ pr⟩
              rw [List.getElem?_set_self (by rw [s1.env.length]; exact hl)]
            · rw [if_neg hgf] at h; exact h.elim
      · rw [if_neg hl] at h; exact h.elim
    · rw [if_neg hc] at h; exact h.elim
/-- except RightsError: return x -/
theorem s_tryC {sb : List IS} {body : List Stmt} {np pos' p5 : Pos} (c : Cq X W k) (T : PySem.ReX.Txt X.K X.mg X.prog C fI) (hb : ∀ (W' : WX) (pn : List (Addr × Obj)) (xe : Value → Shared → Prop), Cq (X.tr pn xe) W' k → PassesOwn (model X.prog X.w) X.A X.env xe → JSs (X.tr pn xe) W' P sb body)
    (hx : ∀ (a : Addr) (pn : List (Addr × Obj)) (W' : WX), JE (X.suite a pn) W' x e)
    (hs : X.stack = X.env :: X.outer := by rfl) (hf : X.env.frame = some X.env.locals := by rfl) (hg : Gl X "RightsError" := by rfl) :
    JS X W P (.tryC sb "RightsError" x) (.Try body [.ExceptHandler (some (.Name "RightsError" np)) none [.Return (some e) p5] pos'] [] [] pos) := by
  refine PS.imp (ps_try_only (c := .ref C) (tb := fun W' => tSX X W' P (run sb)) (ts := fun a cls d => tRet (tDX X (fun _ _ _ _ => False) (sem x).1)) (Wout := W) hs hf ⟨hg, by decide, .inl T.gC⟩ c.tk
    (fun W' pn xe tk hp => hb W' pn xe (c.tr tk) hp) fun a oe cls d pn hz hf => pss_one (ps_ret (hx _ _ _))) fun D σ H h => ?_
  obtain ⟨F, en, fp, ss, h⟩ := h
  refine ⟨F, en, fp, ss, ?_⟩
  have h : WS X.K X.mg W P D H F fp σ (tryS "RightsError" (fun _ e1 => (noX ((sem x).1 e1)).st fun t e2 => .ret t e2) (run sb en)) := h
  cases hm : run sb en with
  | bad => rw [hm] at h; exact h
  | nx e1 => rw [hm] at h; exact h
  | brk e1 => rw [hm] at h; exact h
  | ct e1 => rw [hm] at h; exact h
  | ret t e1 => rw [hm] at h; exact h
  | exn y e1 =>
    rw [hm] at h
    have h : WS X.K X.mg W P D H F fp σ (if y.cls = "RightsError" then (noX ((sem x).1 e1)).st (fun t e2 => .ret t e2) else .bad) := h
    by_cases hc : y.cls = "RightsError"
    · rw [if_pos hc] at h
      intro cls d σ' H' F' fp' st s1 pr ex
      obtain ⟨C', dd, fs, hC, rfl, rfl, hdd, rf⟩ := ex
      rw [hc] at hC
      have eC : C' = C := by
        have := hC.symm.trans T.gC
        cases this; rfl
      subst eC
      refine ⟨true, T.te, fun _ a ha => ?_, fun z => nomatch z⟩
      refine ⟨F', e1, fp', s1, ?_⟩
      cases hm2 : (sem x).1 e1 with
      | bad => rw [hm2] at h; exact h.elim
      | exn y e2 => rw [hm2] at h; exact h.elim
      | ok t e2 =>
        rw [hm2] at h
        exact fun v H1 F1 fpe fpv vp => h v σ' H1 F1 fpe fpv (vp.pre st) pr
    · rw [if_neg hc] at h; exact h.elim
end
end Rx
end

section
/-! Rx, part 16: instances: made, their attributes stored and read. -/
namespace Rx
open PySem PySem.Spec PyProof.Rows L2

section
variable {X : Cx} {CX : CXT} {k : Nat} {f C : Addr} {fd : FuncData} {ps : List Str} {sp : Sp} {x : Str} {p pos : Pos} {e : Expr} {es : List Expr} {t : TA}
theorem run_makeS {pins : List (Addr × Obj)} {σ : L2.St} {H : Hp} {s : Shared} {Q : VK} {us : List Value} {vs : List V} {E : XK} (M : Mk X.K C f) (F : FnOk X.prog X.w X.K X.mg X.base CX k f fd ps sp) (hr : Room (k + 1) X.A) (hb : Binds X.K fd ps [])
    (hx : PassesAt CX X σ E) (I : Inv X pins σ H s) (r : Vals vs us)
    (h : ∀ x dx, H x = none → H dx = none → dx ≠ x → sp (.ref x :: vs) (upd (upd H dx (.own x)) x (.ins C dx [])) (fun v H2 => v = .non ∧ Q (.ref x) H2) E) :
    wpAny (model X.prog X.w) X.A (call (.ref C) us) (EP X pins σ Q) X.xe s := by
  have hq := h (s.heap.objs.size + 1) s.heap.objs.size (I.hok.fresh (Nat.le_succ _)) (I.hok.fresh (Nat.le_refl _)) (Nat.ne_of_lt (Nat.lt_succ_self _))
  have I2 := Inv.made (C := C) I
  have r2 : Vals (V.ref (s.heap.objs.size + 1) :: vs) (Value.ref (s.heap.objs.size + 1) :: us) := .cons rfl r
  have hl : (Value.ref (s.heap.objs.size + 1) :: us).length = ps.length := by
    have e := r2.length
    rw [F.len _ _ _ _ hq] at e
    exact e.symm
  have b := hb { s with heap := (s.heap.push PySem.W.emptyDict).push (PySem.W.instObj C s.heap.objs.size) } (Value.ref (s.heap.objs.size + 1) :: us) I2.kIn (by rw [List.append_nil]; exact hl)
  rw [List.append_nil] at b
  refine wpAny_call (make_map (f := f) I.kIn M.makes M.init (beq_iff_eq.mp M.fn) (codeAny_mono (F.run _ X.stack _ _ ⟨Value.ref (s.heap.objs.size + 1) :: us, []⟩ (Value.ref (s.heap.objs.size + 1) :: us) _ _ E (hr.make C us [])
    (I2.env0.make C us []) b r2 hq) fun r s' hq' => ?_))
  cases r with
  | error e => exact hx pins _ _ e s' I2 hq'
  | ok fl =>
    cases fl with
    | ret u =>
      obtain ⟨v, H', I3, rv, ev, q3⟩ := I2.after hq'
      subst ev
      exact ⟨rv, ⟨V.ref (s.heap.objs.size + 1), H', I3, rfl, q3⟩⟩
    | next => exact False.elim hq'
    | brk => exact False.elim hq'
    | cont => exact False.elim hq'
def tMakeS (C : Addr) (sp : Sp) (E : L2.St → XK) (t : TA) : TE := fun σ H Q => t σ H fun vs H1 => ∀ x dx, H1 x = none → H1 dx = none → dx ≠ x → sp (.ref x :: vs) (upd (upd H1 dx (.own x)) x (.ins C dx [])) (fun v H2 => v = .non ∧ Q (.ref x) H2) (E σ)
theorem pe_makeS {E : L2.St → XK} (M : Mk X.K C f) (F : FnOk X.prog X.w X.K X.mg X.base CX k f fd ps sp) (hr : Room (k + 1) X.A) (hg : Gl X x) (hm : X.mg x = some (.ref C)) (hb : Binds X.K fd ps []) (hx : ∀ σ, PassesAt CX X σ (E σ))
    (ha : PA X (e :: es) t) (hdb : (x == ("__debug__" : Str)) = false) (he : starEach (e :: es) X.env = (false, eval e X.env) :: starEach es X.env) (hpl : (backTo pos (starEach es X.env)).any (·.1) = false) :
    PE X (.Call (.Name x p) (e :: es) [] pos) (tMakeS C sp E t) := by
  refine ⟨fun pins s σ H Q I h => ?_⟩
  refine wpAny_Call_Name_kw (ld_glob I hg hm ?_ hdb)
  refine PySem.W.callWith_K (h₀ := X.base) I.ok.mod.kin M.kp (thn (ha.run pos pins s σ H _ I h) fun us s1 ⟨vs, H1, I1, r, q⟩ => ⟨I1.kIn, ?_⟩) he hpl
  exact run_makeS M F hr hb (hx σ) I1 r q
theorem pe_makeS0 {E : L2.St → XK} (M : Mk X.K C f) (F : FnOk X.prog X.w X.K X.mg X.base CX k f fd ps sp) (hr : Room (k + 1) X.A) (hg : Gl X x) (hm : X.mg x = some (.ref C)) (hb : Binds X.K fd ps []) (hx : ∀ σ, PassesAt CX X σ (E σ))
    (hdb : (x == ("__debug__" : Str)) = false) : PE X (.Call (.Name x p) [] [] pos) (tMakeS C sp E tNil) := by
  refine ⟨fun pins s σ H Q I h => ?_⟩
  refine wpAny_Call_Name_kw (ld_glob I hg hm ?_ hdb)
  exact PySem.W.callWith_K0 I.kIn M.kp (run_makeS (us := []) M F hr hb (hx σ) I .nil h)
end

/-- the class c is made by the def f, with n arguments -/
structure HasMk (P : Program) (w : World) (K : PySem.W.Frag) (mg : Str → Option Value) (base : Heap) (k : Nat) (c : Str) (n : Nat) (f : Fn) : Prop where
  ex : ∃ (C fI : Addr) (fd : FuncData) (ps : List Str), FnOk P w K mg base (L2.CX P w) k fI fd ps (spF K mg (true :: List.replicate n false) f) ∧ mg c = some (.ref C) ∧ Mk K C fI ∧ Binds K fd ps []
/-- the class c, whose instances have the attributes fs of their own -/
structure HasC (K : PySem.W.Frag) (mg : Str → Option Value) (c : Str) (fs : List Str) : Prop where
  ex : ∃ C, mg c = some (.ref C) ∧ Cls K C ∧ ∀ f ∈ fs, NoAttr K C f
section
variable {K : PySem.W.Frag} {mg : Str → Option Value} {H F : Hp}
theorem DRs.evR {Hx : Hp} : ∀ {vs : List V} {ds : List D}, DRs K mg F vs ds → EvR K mg Hx F (vs.map some) (ds.map fun d => some (.fz d)) []
  | _, _, .nil => .nil
  | _, _, .cons h r => .cons (fp := []) (fps := []) (.so (.fz h)) (DRs.evR r) fun _ z => nomatch z
theorem DRs.len : ∀ {vs : List V} {ds : List D}, DRs K mg F vs ds → vs.length = ds.length
  | _, _, .nil => rfl
  | _, _, .cons _ r => congrArg (· + 1) (DRs.len r)
theorem OTRf.put : ∀ {vs : List (Str × V)} {ts : List (Str × OT)} {fp g : List Addr} {v : V} {t : OT} (f : Str), OTRf K mg H F vs ts fp → OTR K mg H F v t g → (∀ a ∈ g, a ∉ fp) → ∃ fp', OTRf K mg H F (putF f v vs) (putA f t ts) fp' ∧ ∀ a ∈ fp', a ∈ g ∨ a ∈ fp
  | _, _, _, g, v, t, f, .nil, o, _ => ⟨g ++ [], .cons o .nil (fun _ _ z => nomatch z), fun a ha => .inl (by simpa using ha)⟩
  | _, _, _, g, v, t, f, .cons (f := f') (fp := g1) (fps := gs) o1 r n, o, d => by
    by_cases e : f' = f
    · subst e
      refine ⟨g ++ gs, ?_, fun a ha => (List.mem_append.mp ha).imp id fun z => List.mem_append_right _ z⟩
      simp only [putF, putA, if_pos rfl]
      exact .cons o r fun a ha q => d a ha (List.mem_append_right _ q)
    · obtain ⟨fp', h1, h2⟩ := OTRf.put f r o fun a ha q => d a ha (List.mem_append_right _ q)
      refine ⟨g1 ++ fp', ?_, fun a ha => (List.mem_append.mp ha).elim (fun z => .inr (List.mem_append_left _ z)) fun z => (h2 a z).imp id fun z => List.mem_append_right _ z⟩
      simp only [putF, putA, if_neg e]
      exact .cons o1 h1 fun a ha q => (h2 a q).elim (fun z => d a z (List.mem_append_left _ ha)) fun z => n a ha z
theorem OTRf.len : ∀ {vs : List (Str × V)} {ts : List (Str × OT)} {fp : List Addr}, OTRf K mg H F vs ts fp → vs.length = ts.length
  | _, _, _, .nil => rfl
  | _, _, _, .cons _ r _ => congrArg (· + 1) (OTRf.len r)
theorem DRf.lookup : ∀ {vs : List (Str × V)} {ds : List (Str × D)} {f : Str} {d : D}, DRf K mg F vs ds → ds.lookup f = some d → ∃ v, vs.lookup f = some v ∧ DR K mg F v d
  | _, _, _, _, .nil, h => nomatch h
  | _, _, f, d, .cons (f := f') (v := v) h r, e => by
    rw [List.lookup_cons] at e ⊢
    cases z : f == f' with
    | true => rw [z] at e; cases e; exact ⟨v, rfl, h⟩
    | false => rw [z] at e; exact DRf.lookup r e
end
theorem views_len (l : List OT) : (OT.views l).length = l.length := by
  induction l with
  | nil => rfl
  | cons a l ih => exact congrArg (· + 1) ih
theorem evs_len : ∀ {xs : List IE} {en e1 : Ev} {ts : List OT}, evs xs en = .ok ts e1 → ts.length = xs.length := fun {xs} => by
  induction xs with
  | nil => intro en e1 ts h; cases h; rfl
  | cons x r ih =>
    intro en e1 ts h
    have h : ((sem x).1 en).bind (fun t e2 => (evs r e2).bind fun ts e3 => .ok (t :: ts) e3) = .ok ts e1 := h
    cases h1 : (sem x).1 en with
    | bad => rw [h1] at h; cases h
    | exn z e2 => rw [h1] at h; cases h
    | ok t e2 =>
      rw [h1] at h
      have h : (evs r e2).bind (fun ts e3 => .ok (t :: ts) e3) = .ok ts e1 := h
      cases h2 : evs r e2 with
      | bad => rw [h2] at h; cases h
      | exn z e3 => rw [h2] at h; cases h
      | ok us e3 =>
        rw [h2] at h
        cases h
        exact congrArg (· + 1) (ih h2)
section
variable {X : Cx} {W : WX} {k : Nat} {P : Nat → Bool} {pos p p2 apos pos' : Pos} {a b c e o value : Expr} {es rest : List Expr} {xa xb xc x : IE} {xs : List IE}
theorem mk_end {x : Str} {C : Addr} {f : Fn} {n : Nat} {σ : L2.St} {H H1 F F1 : Hp} {fp fpe fpv : List Addr} {vs : List V} {ts : List OT} {e1 : Ev} {Q : VK} (hC : X.mg x = some (.ref C)) (hn : ts.length = n) (p : VsPost X.K X.mg H F fp σ e1 vs ts H1 F1 fpe fpv)
    (q : WP X.K X.mg W σ H F fp (mkC x f (OT.views ts) e1) (FinV X.K X.mg H F fp σ Q)) (y dx : Addr) (hy : H1 y = none) (hdx : H1 dx = none) (hne : dx ≠ y) :
    spF X.K X.mg (true :: List.replicate n false) f (.ref y :: vs) (upd (upd H1 dx (.own y)) y (.ins C dx [])) (fun v H2 => v = .non ∧ Q (.ref y) H2) (WE W σ) := by
  obtain ⟨q1, q2, q3⟩ := p.frz
  generalize hFz : frzF F1 H1 fpv = Fz at q1 q2 q3
  have hy2 : upd H1 dx (.own y) y = none := by rw [upd_ne (Ne.symm hne)]; exact hy
  have sA : Stp H1 Fz fpe (upd (upd H1 dx (.own y)) y (.ins C dx [])) Fz (y :: fpe) := ((Stp.newO hdx).sub fun a ha => List.mem_cons_of_mem _ ha : Stp H1 Fz fpe (upd H1 dx (.own y)) Fz fpe).trans (Stp.newO hy2)
  have le2 : Same Fz (upd (upd H1 dx (.own y)) y (.ins C dx [])) := same_new (same_new q2.le hdx) hy2
  have kp : ∀ a o, H1 a = some o → upd (upd H1 dx (.own y)) y (.ins C dx []) a = some o := fun a o h => by
    rw [upd_ne (ne_of_none h hy), upd_ne (ne_of_none h hdx)]; exact h
  have env2 : EvR X.K X.mg (upd (upd H1 dx (.own y)) y (.ins C dx [])) Fz σ e1 fpe := q2.env.keep (Same.refl _) fun a _ o h => kp a o h
  have yfpe : y ∉ fpe := fun z => by
    obtain ⟨o, h⟩ := q2.env.there y z
    rw [hy] at h; cases h
  have Fy : Fz y = none := Same.free q2.le hy
  have lts : ∀ l : List OT, (OT.views l).length = l.length := fun l => by
    induction l with
    | nil => rfl
    | cons a l ih => exact congrArg (· + 1) ih
  have nd : ∀ a ∈ fpe, a ∉ [y] ++ ([] : List Addr) := fun a ha z => yfpe (by
    have : a = y := by simpa using z
    rw [← this]; exact ha)
  refine ⟨by simp only [List.length_cons, List.length_replicate]; rw [q3.len, lts, hn], Fz, _, [y] ++ [], le2, .cons (fp := [y]) (fps := []) (.so (.ins upd_same hC .nil (fun z => nomatch z))) q3.evR (fun _ _ z => nomatch z), fun a ha => ?_, ?_⟩
  · have : a = y := by simpa using ha
    rw [this]; exact Fy
  unfold mkC at q
  cases hf : f (some (.ins x []) :: (OT.views ts).map fun d => some (.fz d)) with
  | bad => rw [hf] at q; exact q.elim
  | exn z outs =>
    rw [hf] at q
    intro cls d H' F' fpo st le' eo ow ex
    have st2 := st.frame (gp := fpe)
    obtain ⟨k1, k2, k3⟩ := st.held (gp := fpe) env2.there nd q2.own
    exact q cls d H' F' fpe ((q1.trans (sA.trans (by simpa using st2))).sub fun a ha => List.mem_append_right _ ha) ⟨le', env2.keep st.fz k1, k2⟩ ex
  | ok r outs =>
    rw [hf] at q
    intro v H' F' fpo fpv' st le' eo ov dis owo owv
    cases r with
    | lst ts => exact q.elim
    | dic ts => exact q.elim
    | ins c ts => exact q.elim
    | fz d =>
      cases d <;> first | exact q.elim | skip
      cases outs with
      | nil => exact q.elim
      | cons o1 outs =>
        cases o1 with
        | none => exact q.elim
        | some o1 =>
          cases ov with
          | fz dv =>
            cases dv
            refine ⟨rfl, ?_⟩
            cases eo with
            | cons sl er dd =>
              rename_i g gs
              cases sl with
              | so oo =>
                have st2 := st.frame (gp := fpe)
                obtain ⟨k1, k2, k3⟩ := st.held (gp := fpe) env2.there nd q2.own
                refine q (.ref y) H' F' fpe g ⟨(q1.trans (sA.trans (by simpa using st2))).sub fun a ha => ?_, ⟨le', env2.keep st.fz k1, k2⟩, oo, fun a ha z => ?_, fun a ha => owo a (List.mem_append_left _ ha)⟩
                · rcases List.mem_append.mp ha with ha | ha <;> simp [ha]
                · exact k3 a z (List.mem_append_right _ (List.mem_append_left _ ha))
/-- C(..) -/
theorem e_mk {x : Str} {f : Fn} {n j : Nat} (c : Cq X W k) (M : HasMk X.prog X.w X.K X.mg X.base j x n f) (ha : JL X W xs (e :: es)) (hk : decide (j + 1 ≤ k) = true := by rfl) (hl : xs.length = n := by rfl) (hg : Gl X x := by rfl) (hdb : (x == ("__debug__" : Str)) = false := by decide)
    (he : starEach (e :: es) X.env = (false, eval e X.env) :: starEach es X.env := by rfl) (hpl : (backTo pos (starEach es X.env)).any (·.1) = false := by rfl) : JE X W (.mk x f xs) (.Call (.Name x p) (e :: es) [] pos) := by
  obtain ⟨C, fI, fd, ps, Fk, hC, Mk, hb⟩ := M.ex
  refine PE.imp (pe_makeS (E := WE W) Mk Fk (c.room.mono (of_decide_eq_true hk)) hg hC hb (fun σ => passAt c.tk σ) ha hdb he hpl) fun σ H Q q => ?_
  obtain ⟨F, en, fp, ss, q⟩ := q
  have q : WP X.K X.mg W σ H F fp ((evs xs en).bind fun ts e1 => mkC x f (OT.views ts) e1) (FinV X.K X.mg H F fp σ Q) := q
  refine ⟨F, en, fp, ss, ?_⟩
  cases hm : evs xs en with
  | bad => rw [hm] at q; exact q
  | exn z e1 => rw [hm] at q; exact q
  | ok ts e1 =>
    rw [hm] at q
    intro vs H1 F1 fpe fpv p y dx hy hdx hne
    have hn : ts.length = n := by rw [evs_len hm, hl]
    exact mk_end hC hn p q y dx hy hdx hne
theorem e_mk0 {x : Str} {f : Fn} {j : Nat} (c : Cq X W k) (M : HasMk X.prog X.w X.K X.mg X.base j x 0 f) (hk : decide (j + 1 ≤ k) = true := by rfl) (hg : Gl X x := by rfl) (hdb : (x == ("__debug__" : Str)) = false := by decide) :
    JE X W (.mk x f []) (.Call (.Name x p) [] [] pos) := by
  obtain ⟨C, fI, fd, ps, Fk, hC, Mk, hb⟩ := M.ex
  refine PE.imp (pe_makeS0 (E := WE W) Mk Fk (c.room.mono (of_decide_eq_true hk)) hg hC hb (fun σ => passAt c.tk σ) hdb) fun σ H Q q => ?_
  obtain ⟨F, en, fp, ss, q⟩ := q
  have q : WP X.K X.mg W σ H F fp (mkC x f (OT.views []) en) (FinV X.K X.mg H F fp σ Q) := q
  exact fun y dx hy hdx hne => mk_end (ts := []) (vs := []) hC rfl ⟨Stp.refl, ss, .nil, nm, nm⟩ q y dx hy hdx hne
/-- o.f -/
theorem e_att {cs : List Str} {f : Str} (h : ∀ c ∈ cs, HasC X.K X.mg c [f]) (ho : JE X W x o) (hb : attributeBase o f X.env (eval o X.env) = eval o X.env := by rfl) : JE X W (.att x cs f) (.Attribute o f pos) := by
  refine PE.imp (pe_fld ho hb) fun σ H Q q => ?_
  obtain ⟨F, en, fp, ss, q⟩ := q
  have q : WP X.K X.mg W σ H F fp (((sem x).1 en).bind fun t e1 => (M.lift (attD t.view cs f) e1).bind fun d e2 => .ok (.fz d) e2) (FinV X.K X.mg H F fp σ Q) := q
  refine ⟨F, en, fp, ss, ?_⟩
  cases hm : (sem x).1 en with
  | bad => rw [hm] at q; exact q
  | exn z e1 => rw [hm] at q; exact q
  | ok t e1 =>
    rw [hm] at q
    intro v H1 F1 fpe fpv p
    obtain ⟨q1, q2, q3⟩ := p.frz
    have q : WP X.K X.mg W σ H F fp ((M.lift (attD t.view cs f) e1).bind fun d e2 => .ok (.fz d) e2) (FinV X.K X.mg H F fp σ Q) := q
    cases hv : attD t.view cs f with
    | none => rw [hv] at q; exact q.elim
    | some d =>
      rw [hv] at q
      cases ht : t.view <;> rw [ht] at hv q3 <;> first | (cases hv; done) | skip
      rename_i c ds
      have hv : (if c ∈ cs then ds.lookup f else none) = some d := hv
      by_cases hc : c ∈ cs
      · rw [if_pos hc] at hv
        cases q3 with
        | ins h1 h2 h3 =>
          obtain ⟨v2, l2, r2⟩ := DRf.lookup h3 hv
          obtain ⟨C, hC, cl, no⟩ := (h c hc).ex
          have hC2 := hC.symm.trans h2
          cases hC2
          exact ⟨_, _, _, _, v2, rfl, q2.le _ _ h1, cl, no f (List.mem_singleton.mpr rfl), l2, q v2 H1 _ fpe [] ⟨q1, q2, .fz r2, nm, nm⟩⟩
      · rw [if_neg hc] at hv; cases hv
/-- self.f = e -/
theorem s_sta {cn f : Str} (j : Nat) {n : Str} (h : HasC X.K X.mg cn [f]) (hv : JE X W x value) (hP : True := by trivial) (hN : X.N[j]? = some n := by rfl) (hvi : Vis X.env.scope n := by first | exact Or.inl rfl | exact Or.inr (Or.inl rfl) | exact Or.inr (Or.inr rfl)) (hd : (n == ("__debug__" : Str)) = false := by decide) (hcd : (n == ("__classdict__" : Str)) = false := by decide)
    (hs : swapsWith value (some (.Attribute (.Name n p) f pos')) pos.line X.env = pure false := by rfl) : JS X W P (.sta j cn f x) (.Assign [.Attribute (.Name n p) f pos'] value pos) := by
  refine PS.imp (ps_fld (pe_var hN hvi hd hcd) hv hs) fun D σ H q => ?_
  obtain ⟨F, en, fp, ss, q⟩ := q
  have q : WS X.K X.mg W P D H F fp σ (((sem x).1 en).st fun t e1 => ofO (updAt j [] (staO cn f t) e1)) := q
  refine tD_st Stp.refl Pr.refl ss q fun v t H1 F1 fpe fpv e1 p h1 => ?_
  cases hu : updAt j [] (staO cn f t) e1 with
  | none => rw [hu] at h1; exact h1.elim
  | some e2 =>
    rw [hu] at h1
    obtain ⟨t0, t1, hj, hst, rfl⟩ := updAt_nil hu
    cases t0 <;> first | (cases hst; done) | skip
    rename_i c0 fs0
    have hst : (if c0 = cn ∧ fs0.length < 1000 then some (OT.ins cn (putA f t fs0)) else none) = some t1 := hst
    by_cases hz : c0 = cn ∧ fs0.length < 1000
    · rw [if_pos hz] at hst
      cases hst
      obtain ⟨rfl, hlen⟩ := hz
      obtain ⟨v0, g, rest, k1, k2, k3, k4, k5⟩ := p.ss.env.take hj
      obtain ⟨C, hC, cl, no⟩ := h.ex
      cases k2 with
      | ins m1 m2 m3 m4 =>
        rename_i a C2 dx vs0 fp0
        have hC2 := hC.symm.trans m2
        cases hC2
        refine ⟨_, k1, a, C, dx, vs0, rfl, m1, cl, no f (List.mem_singleton.mpr rfl), by rw [m3.len]; exact hlen, ?_⟩
        have aF : F1 a = none := p.ss.own a ((k4 a).mpr (.inl List.mem_cons_self))
        have dis : ∀ b ∈ fpv, b ∉ fp0 := fun b hb z => p.dis b hb ((k4 b).mpr (.inl (List.mem_cons_of_mem _ z)))
        obtain ⟨fp', n1, n2⟩ := OTRf.put f m3 p.val dis
        have av : a ∉ fpv := fun z => p.dis a z ((k4 a).mpr (.inl List.mem_cons_self))
        have ar : a ∉ rest := k5 a List.mem_cons_self
        have ku : ∀ (S : List Addr), a ∉ S → ∀ b ∈ S, ∀ o, H1 b = some o → upd H1 a (.ins C dx (putF f v vs0)) b = some o := fun S hS b hb o q => by
          rw [upd_ne (fun z => hS (by rw [← z]; exact hb))]; exact q
        have afp' : a ∉ fp' := fun z => (n2 a z).elim av m4
        have r2 : OTR X.K X.mg (upd H1 a (.ins C dx (putF f v vs0))) F1 (.ref a) (.ins c0 (putA f t fs0)) (a :: fp') := .ins upd_same hC (n1.keep (Same.refl _) (ku fp' afp')) afp'
        obtain ⟨fp2, s1, s2⟩ := EvR.put (k3.keep (Same.refl _) (ku rest ar)) k1 r2 fun b hb z => by
          rcases List.mem_cons.mp hb with rfl | hb
          · exact ar z
          · rcases n2 b hb with y | y
            · exact p.dis b y ((k4 b).mpr (.inr z))
            · exact k5 b (List.mem_cons_of_mem _ y) z
        rw [List.set_set] at s1
        have sub : ∀ b ∈ fp2, b ∈ fpv ++ fpe := fun b hb => by
          rcases s2 b hb with y | y
          · rcases List.mem_cons.mp y with rfl | y
            · exact List.mem_append_right _ ((k4 _).mpr (.inl List.mem_cons_self))
            · rcases n2 b y with y | y
              · exact List.mem_append_left _ y
              · exact List.mem_append_right _ ((k4 b).mpr (.inl (List.mem_cons_of_mem _ y)))
          · exact List.mem_append_right _ ((k4 b).mpr (.inr y))
        refine h1 σ _ F1 fp2 ((p.st.trans (Stp.wr (List.mem_append_right _ ((k4 a).mpr (.inl List.mem_cons_self))))).sub sub) ⟨fun b o q => ?_, s1, fun b hb => ?_⟩ Pr.refl
        · rw [upd_ne (fun z => by rw [z, aF] at q; cases q)]; exact p.ss.le b o q
        · rcases List.mem_append.mp (sub b hb) with y | y
          · exact p.own b y
          · exact p.ss.own b y
    · rw [if_neg hz] at hst; cases hst
end
end Rx
end

section
/-! Rx, part 17: chains, calls of a name that holds a def, isinstance with an own class. -/
namespace Rx
open PySem PySem.Spec PyProof.Rows L2
section
variable {X : Cx} {W : WX} {k : Nat} {P : Nat → Bool} {pos p p2 : Pos} {a b c e : Expr} {es rest : List Expr} {xa xb xc x : IE} {xs : List IE}
theorem chn_use {o1 o2 : CmpOp} {g1 g2 : D → D → Option Bool} {σ : L2.St} {H : Hp} {Q : VK} (h : tDX X W (sem (.chn o1 o2 g1 g2 xa xb xc)).1 σ H Q) : tChain (R2D X.K X.mg (bl2 g1)) (R2D X.K X.mg (bl2 g2)) (tOX X W xa (sem xa).1) (tOX X W xb (sem xb).1) (tOX X W xc (sem xc).1) σ H Q := by
  obtain ⟨F, en, fp, ss, h⟩ := h
  refine op2_use (f := fun x y rb => M.bind (M.lift (g1 x y)) fun k => (match k with
    | true => M.bind (opd xc (sem xc).1) fun rc => M.bind (fin xb rb) fun y => M.bind (fin xc rc) fun z => blM (g2 y z)
    | false => M.pure (.fz (.bl false)))) Stp.refl ss h fun v w H2 F2 fp2 e2 x y rb s2 ss2 px py ob h2 => ?_
  obtain ⟨k1, hk, h2⟩ := lift_use h2
  refine ⟨F2, x, y, .fz (.bl k1), ss2.le, px, py, by unfold bl2; rw [hk]; rfl, fun z H3 F3 fpv st le3 ov _ => ?_⟩
  cases ov with
  | fz dz =>
    cases dz
    obtain ⟨q1, q2, q3⟩ := st.held (gp := fp2) ss2.env.there (fun a _ q => nomatch q) ss2.own
    have ss3 : SS X.K X.mg H3 F3 σ e2 fp2 := ⟨le3, ss2.env.keep st.fz q1, q2⟩
    have s3 : Stp H F fp H3 F3 fp2 := s2.trans (by simpa using st.frame (gp := fp2))
    refine ⟨k1, rfl, ?_⟩
    cases k1 with
    | false =>
      rw [if_neg Bool.false_ne_true]
      exact finP_of ss3 (FinV.step s3 h2) _ H3 F3 [] Stp.refl le3 (.fz (.bl _)) fun _ z => nomatch z
    | true =>
      rw [if_pos rfl]
      have h2 : WP X.K X.mg W σ H F fp ((opd xc (sem xc).1 e2).bind fun rc e4 => (fin xb rb e4).bind fun y e5 => (fin xc rc e5).bind fun z e6 => blM (g2 y z) e6) (FinV X.K X.mg H F fp σ Q) := h2
      refine opd_use s3 ss3 h2 fun v3 H4 F4 fp4 rc e4 s4 sf4 ss4 oc h4 => ?_
      obtain ⟨y', py', h5⟩ := fin_use ss4 ((ob.mono st.fz).mono sf4) h4
      obtain ⟨z, pz, h6⟩ := fin_use ss4 oc h5
      obtain ⟨k2, hk2, hq⟩ := cmp_end s4 ss4 h6
      exact ⟨F4, y', z, _, ss4.le, py', pz, by unfold bl2; rw [hk2]; rfl, hq⟩
theorem e_chn {o1 o2 : CmpOp} {g1 g2 : D → D → Option Bool} (ho : OpD X (compareOp o1) (bl2 g1)) (ho' : OpD X (compareOp o2) (bl2 g2)) (ha : JO X W xa a) (hb : JO X W xb b) (hc : JO X W xc c) (hm : lastMarks [o1, o2] [b, c] = false := by with_unfolding_all rfl) :
    JE X W (.chn o1 o2 g1 g2 xa xb xc) (.Compare a [o1, o2] [b, c] pos) := PE.imp (pe_chain ho ho' ha hb hc hm) fun σ H Q h => chn_use h
structure HasI (K : PySem.W.Frag) (mg : Str → Option Value) (c : Str) : Prop where
  ex : ∃ C, mg c = some (.ref C) ∧ C8.InsC K C
theorem PR.insI {H F : Hp} {K : PySem.W.Frag} {mg : Str → Option Value} {v : V} {c : Str} {ds : List (Str × D)} (p : PR K mg H F v (.ins c ds)) : ∃ a C dx fs, v = .ref a ∧ F a = some (.ins C dx fs) ∧ mg c = some (.ref C) := by
  cases p with
  | fz d =>
    cases d with
    | ins h m r => exact ⟨_, _, _, _, rfl, h, m⟩
theorem e_isC {cn m : Str} (h0 : X.mg "isinstance" = none) (h : HasI X.K X.mg cn) (ha : JO X W x e) (hg : Gl X "isinstance" := by rfl) (hgT : Gl X cn := by rfl) (hdT : (cn == ("__debug__" : Str)) = false := by decide)
    (he : starEach [e, .Name cn p2] X.env = (false, eval e X.env) :: starEach [.Name cn p2] X.env := by rfl) (he2 : starEach [.Name cn p2] X.env = [(false, eval (.Name cn p2) X.env)] := by rfl) (hpl : (backTo pos (starEach [.Name cn p2] X.env)).any (·.1) = false := by rfl) :
    JE X W (.me m (isiC cn) x []) (.Call (.Name "isinstance" p) [e, .Name cn p2] [] pos) := by
  obtain ⟨C, hC, iC⟩ := h.ex
  refine PE.imp (pe_callB (C8.call_isC iC) hg h0 rfl (pa_cons ha (pa_cons (pe_glob hgT hC (v := .ref C) rfl hdT) pa_nil he2) he) (by decide) (by decide) he hpl) fun σ H Q h => ?_
  obtain ⟨F, en, fp, ss, h⟩ := h
  refine opd_use Stp.refl ss h fun v H1 F1 fp1 r e1 s1 _ ss1 o1 h1 => ?_
  obtain ⟨d, pd, h2⟩ := fin_use ss1 o1 h1
  obtain ⟨t, ht, hq⟩ := lift_end s1 ss1 h2
  cases d <;> first | (cases ht; done) | skip
  rename_i c' ds
  have ht : (if c' = cn then some (OT.fz (.bl true)) else none) = some t := ht
  by_cases hc : c' = cn
  · rw [if_pos hc] at ht
    cases ht
    subst hc
    obtain ⟨a, C2, dx, fs, rfl, hF, m2⟩ := pd.insI
    have := hC.symm.trans m2
    cases this
    exact ⟨a, dx, fs, rfl, ss1.le _ _ hF, hq.bl ss1.le⟩
  · rw [if_neg hc] at ht; cases ht
/-- a call of a name that holds one of several defs -/
def tCallV (K : PySem.W.Frag) (mg : Str → Option Value) (i n : Nat) (tbl : List (Str × Fn)) (W : WX) (t : TA) : TE := fun σ H Q => ∃ x f fa, (x, f) ∈ tbl ∧ mg x = some (.ref fa) ∧ σ[i]? = some (some (.ref fa)) ∧ t σ H fun vs H1 => spF K mg (List.replicate n false) f vs H1 Q (WE W σ)
theorem pe_callV {i n j : Nat} {tbl : List (Str × Fn)} {x : Str} {t : TA} (ht : ∀ q ∈ tbl, HasFn X.prog X.w X.K X.mg X.base j q.1 (List.replicate n false) q.2) (hr : Room j X.A) (tk : Takes X W) (hN : X.N[i]? = some x) (hv : Vis X.env.scope x) (ha : PA X (e :: es) t)
    (hdb : (x == ("__debug__" : Str)) = false) (hcd : (x == ("__classdict__" : Str)) = false)
    (he : starEach (e :: es) X.env = (false, eval e X.env) :: starEach es X.env) (hpl : (backTo pos (starEach es X.env)).any (·.1) = false) : PE X (.Call (.Name x p) (e :: es) [] pos) (tCallV X.K X.mg i n tbl W t) := by
  refine ⟨fun pins s σ H Q I h => ?_⟩
  obtain ⟨y, f, fa, hm, hy, hs, h⟩ := h
  obtain ⟨fa2, fd, ps, Fk, hm2, hkp, hb⟩ := (ht (y, f) hm).ex
  have := hy.symm.trans hm2
  cases this
  refine wpAny_Call_Name_kw (thn ((pe_var (pos := p) hN hv hdb hcd).run pins s σ H (fun v H1 => v = .ref fa ∧ H1 = H) I ⟨.ref fa, hs, rfl, rfl⟩) fun u s1 ⟨v, H1, I1, r1, q1⟩ => ?_)
  obtain ⟨rfl, rfl⟩ := q1
  cases r1
  refine PySem.W.callWith_K (h₀ := X.base) I.ok.mod.kin hkp (thn (ha.run pos pins s1 σ _ _ I1 h) fun us s2 ⟨vs, H2, I2, r, q⟩ => ⟨I2.kIn, ?_⟩) he hpl
  exact run_fnS (E := WE W) Fk hr hb (passAt tk σ) I2 r q
theorem e_cv (i : Nat) {n j : Nat} {tbl : List (Str × Fn)} {x : Str} (c : Cq X W k) (ht : ∀ q ∈ tbl, HasFn X.prog X.w X.K X.mg X.base j q.1 (List.replicate n false) q.2) (ha : JL X W xs (e :: es)) (hk : decide (j ≤ k) = true := by rfl) (hl : xs.length = n := by rfl)
    (hN : X.N[i]? = some x := by rfl) (hv : Vis X.env.scope x := by first | exact Or.inl rfl | exact Or.inr (Or.inl rfl) | exact Or.inr (Or.inr rfl)) (hdb : (x == ("__debug__" : Str)) = false := by decide) (hcd : (x == ("__classdict__" : Str)) = false := by decide)
    (he : starEach (e :: es) X.env = (false, eval e X.env) :: starEach es X.env := by rfl) (hpl : (backTo pos (starEach es X.env)).any (·.1) = false := by rfl) : JE X W (.cv i tbl xs) (.Call (.Name x p) (e :: es) [] pos) := by
  refine PE.imp (pe_callV (W := W) (i := i) ht (c.room.mono (of_decide_eq_true hk)) c.tk hN hv ha hdb hcd he hpl) fun σ H Q q => ?_
  obtain ⟨F, en, fp, ss, q⟩ := q
  have q : WP X.K X.mg W σ H F fp ((M.get i en).bind fun t e0 => (match t with
    | .fz (.fn x) => (match tbl.lookup x with
      | some f => M.bind (evs xs) fun ts => callC f (OT.views ts)
      | none => fun _ => .bad)
    | _ => fun _ => .bad) e0) (FinV X.K X.mg H F fp σ Q) := q
  cases hi : en.at i with
  | none => simp only [M.get, hi] at q; exact q.elim
  | some t0 =>
    simp only [M.get, hi, R.bind] at q
    obtain ⟨v, g, h1, h2, h3⟩ := ss.env.at hi
    cases t0 with
    | lst ts => exact q.elim
    | dic ts => exact q.elim
    | ins c0 ts => exact q.elim
    | fz d =>
      cases d <;> first | exact q.elim | skip
      rename_i y
      cases hl2 : tbl.lookup y with
      | none => simp only [hl2] at q; exact q.elim
      | some f =>
        simp only [hl2] at q
        have q : WP X.K X.mg W σ H F fp ((evs xs en).bind fun ts e1 => callC f (OT.views ts) e1) (FinV X.K X.mg H F fp σ Q) := q
        cases h2 with
        | fz dv =>
          cases dv with
          | fn hm =>
            rename_i fa
            have hmem : (y, f) ∈ tbl := by
              have : ∀ l : List (Str × Fn), l.lookup y = some f → (y, f) ∈ l := fun l => by
                induction l with
                | nil => intro h; cases h
                | cons p l ih =>
                  intro h
                  rw [List.lookup_cons] at h
                  cases z : y == p.1 with
                  | true =>
                    rw [z] at h
                    have e1 : y = p.1 := by simpa using z
                    cases h
                    rw [e1]; exact List.mem_cons_self
                  | false => rw [z] at h; exact List.mem_cons_of_mem _ (ih h)
              exact this tbl hl2
            refine ⟨y, f, fa, hmem, hm, h1, F, en, fp, ss, ?_⟩
            cases hm2 : evs xs en with
            | bad => rw [hm2] at q; exact q
            | exn z e1 => rw [hm2] at q; exact q
            | ok ts e1 =>
              rw [hm2] at q
              intro vs H1 F1 fpe fpv pp
              obtain ⟨q1, q2, q3⟩ := pp.frz
              have q : WP X.K X.mg W σ H F fp (callC f (OT.views ts) e1) (FinV X.K X.mg H F fp σ Q) := q
              have hn : ts.length = n := by rw [evs_len hm2, hl]
              have lts : (OT.views ts).length = ts.length := views_len ts
              refine ⟨by rw [List.length_replicate, q3.len, lts, hn], _, _, [], q2.le, q3.evR, (fun _ z => nomatch z), ?_⟩
              unfold callC at q
              cases hf : f ((OT.views ts).map fun d => some (.fz d)) with
              | bad => rw [hf] at q; exact q.elim
              | exn z outs =>
                rw [hf] at q
                intro cls d H' F' fpo st le' eo ow ex
                obtain ⟨k1, k2, k3⟩ := st.held (gp := fpe) q2.env.there (fun a _ z => nomatch z) q2.own
                exact q cls d H' F' fpe ((q1.trans (st.frame (gp := fpe))).sub fun a ha => List.mem_append_right _ ha) ⟨le', q2.env.keep st.fz k1, k2⟩ ex
              | ok r outs =>
                rw [hf] at q
                intro v H' F' fpo fpv' st le' eo ov dis owo owv
                obtain ⟨k1, k2, k3⟩ := st.held (gp := fpe) q2.env.there (fun a _ z => nomatch z) q2.own
                exact q v H' F' fpe fpv' ⟨(q1.trans (st.frame (gp := fpe))).sub fun a ha => (List.mem_append.mp ha).elim (fun z => List.mem_append_left _ (List.mem_append_left _ z)) fun z => List.mem_append_right _ z, ⟨le', q2.env.keep st.fz k1, k2⟩, ov, fun a ha z => k3 a z (List.mem_append_left _ ha), owv⟩
end
end Rx
end

section
/-! Rx, part 18: dict comprehensions. -/
namespace Rx
open PySem PySem.Spec PyProof.Rows L2
section
variable {X : Cx} {W : WX} {pos : Pos} {elt iter tg : Expr} {ifs : List Expr} {scope : Scope}
theorem yes_ite {A B : Prop} (h : A) : if true = true then A else B := by
  rw [if_pos rfl]; exact h
theorem dc_use {K : PySem.W.Frag} {mg : Str → Option Value} {tgt : TGt} {mk mv : M OT} {own : List Nat} {mi : M (List D)} {σ : L2.St} {H : Hp} {Q : VK} (ht : (tgt.has.all fun j => own.contains j) = true)
    (h : tD K mg W (M.bind mi fun xs => dcRun own tgt mk mv xs) σ H Q) : tDc (tI K mg W mi) (gOf K tgt) tYes (tD K mg W0 mk) (tD K mg W0 mv) own σ H Q := by
  obtain ⟨F, e0, fp, ss, h⟩ := h
  have h : WP K mg W σ H F fp ((mi e0).bind fun xs e1 => dcRun own tgt mk mv xs e1) (FinV K mg H F fp σ Q) := h
  refine ⟨F, e0, fp, ss, ?_⟩
  cases hm : mi e0 with
  | bad => rw [hm] at h; exact h.elim
  | exn x e1 => rw [hm] at h; exact h
  | ok xs e1 =>
    rw [hm] at h
    intro J H1 F1 fp1 s1 ss1 wk L hL
    have h : WP K mg W σ H F fp (dcRun own tgt mk mv xs e1) (FinV K mg H F fp σ Q) := h
    unfold dcRun at h
    cases hok : ownOk e1 own with
    | false => rw [hok] at h; exact h.elim
    | true =>
      rw [hok] at h
      have hnd := ownOk_nodup hok
      have hod := own_data hok ss1.env
      -- the invariant
      refine ⟨fun i m H2 => i ≤ xs.length ∧ m = xs.length - i ∧ ∃ F2 e2 fp2 vacc acc, Stp H1 F1 fp1 H2 F2 (L :: fp2) ∧ SS K mg H2 F2 (L2.wipe σ own) (wipeE e2 own) fp2 ∧ H2 L = some (.dK vacc) ∧ F2 L = none ∧ L ∉ fp2 ∧ DRk K mg F2 vacc acc ∧
        WP K mg W σ H F fp ((dcGo own tgt mk mv (xs.drop i) acc e2).bind fun acc e' => .ok (.dic acc) (restE e1 (wipeE e' own) own)) (FinV K mg H F fp σ Q), ?_, ?_⟩
      · obtain ⟨fp2, g1, g2⟩ := ss1.env.wipe own
        refine ⟨xs.length, Nat.zero_le _, rfl, F1, e1, fp2, [], [], ?_, ⟨same_new ss1.le hL, ?_, fun a ha => ss1.own a (g2 a ha)⟩, upd_same, Same.free ss1.le hL, fun z => ?_, .nil, h⟩
        · exact (Stp.newO hL).sub fun a ha => (List.mem_cons.mp ha).elim (fun z => by rw [z]; exact List.mem_cons_self) fun z => List.mem_cons_of_mem _ (g2 a z)
        · exact g1.keep (Same.refl _) fun a ha o q => by rw [upd_ne (ne_of_none q hL)]; exact q
        · obtain ⟨o, q⟩ := g1.there L z
          rw [hL] at q; cases q
      · rintro i m H2 ⟨hi, rfl, F2, e2, fp2, vacc, acc, s2, ss2, hLv, hLF, hLn, racc, h2⟩
        have wk2 : DWalk K mg J F2 xs := wk.mono s2.fz
        by_cases hlt : i < xs.length
        · refine .inr ⟨wk2.goes i H2 ss2.le hlt, ?_⟩
          have hd : xs.drop i = xs[i] :: xs.drop (i + 1) := List.drop_eq_getElem_cons hlt
          rw [hd] at h2
          refine ⟨fun H5 => ∃ F5 e5 fp5 vacc5 acc5, Stp H1 F1 fp1 H5 F5 (L :: fp5) ∧ SS K mg H5 F5 (L2.wipe σ own) (wipeE e5 own) fp5 ∧ H5 L = some (.dK vacc5) ∧ F5 L = none ∧ L ∉ fp5 ∧ DRk K mg F5 vacc5 acc5 ∧
            WP K mg W σ H F fp ((dcGo own tgt mk mv (xs.drop (i + 1)) acc5 e5).bind fun acc e' => .ok (.dic acc) (restE e1 (wipeE e' own) own)) (FinV K mg H F fp σ Q), ?_, ?_⟩
          · rintro H5 ⟨F5, e5, fp5, vacc5, acc5, k1, k2, k3, k4, k5, k6, k7⟩
            exact ⟨xs.length - (i + 1), by omega, hlt, rfl, F5, e5, fp5, vacc5, acc5, k1, k2, k3, k4, k5, k6, k7⟩
          · intro x H3 hy
            obtain ⟨d, F3, hd1, st3, le3, rd⟩ := wk2.yields i H2 x H3 F2 (Same.refl _) ss2.le hlt hy
            have hd2 : xs[i] = d := Option.some.inj ((List.getElem?_eq_getElem hlt).symm.trans hd1)
            rw [hd2] at h2
            -- the state behind the item
            obtain ⟨k1, k2, k3⟩ := st3.held ss2.env.there (fun a _ q => nomatch q) ss2.own
            have hL3 : H3 L = some (.dK vacc) := st3.ke L _ hLv fun z => nomatch z
            have hLF3 : F3 L = none := (st3.held (gp := [L]) (fun a ha => by
              have : a = L := by simpa using ha
              rw [this]; exact ⟨_, hLv⟩) (fun a _ q => nomatch q) (fun a ha => by
              have : a = L := by simpa using ha
              rw [this]; exact hLF)).2.1 L List.mem_cons_self
            have ss3 : SS K mg H3 F3 (L2.wipe σ own) (wipeE e2 own) fp2 := ⟨le3, ss2.env.keep st3.fz k1, k2⟩
            have s3 : Stp H1 F1 fp1 H3 F3 (L :: fp2) := s2.trans (by simpa using st3.frame (gp := L :: fp2))
            cases hb : bindT tgt d (wipeE e2 own) with
            | none =>
              have : dcGo own tgt mk mv (d :: xs.drop (i + 1)) acc e2 = .bad := by
                show (match bindT tgt d (wipeE e2 own) with | none => _ | some e1 => _) = _
                rw [hb]
              rw [this] at h2
              exact h2.elim
            | some e3 =>
              have eq : dcGo own tgt mk mv (d :: xs.drop (i + 1)) acc e2 = (noX (mk e3)).bind fun t e4 => (noX (mv e4)).bind fun u e5 => if isKey t.view = true ∧ acc.length < sizeMax then dcGo own tgt mk mv (xs.drop (i + 1)) (putD acc t.view u.view) e5 else .bad := by
                show (match bindT tgt d (wipeE e2 own) with | none => _ | some e1 => _) = _
                rw [hb]
              rw [eq] at h2
              refine bindT_ok (P := fun i => !own.contains i) tgt (by simpa using ht) rd hb ss3 fun σ3 fp3 ss4 sub3 pr3 len3 => ?_
              have hw : L2.wipe σ3 own = L2.wipe σ own := by
                rw [wipe_eq len3 pr3, wipe_wipe]
              refine ⟨hw, ?_⟩
              simp only [tYes, if_true]
              refine ⟨F3, e3, fp3, ss4, ?_⟩
              have hL4 : L ∉ fp3 := fun z => hLn (sub3 L z)
              -- the turn's end
              have fin : ∀ {H5 F5 : Hp} {fp5 : List Addr} {e5 : Ev} {vacc5 : List (Key × V)} {acc5 : List (D × D)}, Stp H1 F1 fp1 H5 F5 (L :: fp5) → SS K mg H5 F5 σ3 e5 fp5 → H5 L = some (.dK vacc5) → F5 L = none → L ∉ fp5 → DRk K mg F5 vacc5 acc5 →
                  WP K mg W σ H F fp ((dcGo own tgt mk mv (xs.drop (i + 1)) acc5 e5).bind fun acc e' => .ok (.dic acc) (restE e1 (wipeE e' own) own)) (FinV K mg H F fp σ Q) →
                  ∃ F5 e5 fp5 vacc5 acc5, Stp H1 F1 fp1 H5 F5 (L :: fp5) ∧ SS K mg H5 F5 (L2.wipe σ own) (wipeE e5 own) fp5 ∧ H5 L = some (.dK vacc5) ∧ F5 L = none ∧ L ∉ fp5 ∧ DRk K mg F5 vacc5 acc5 ∧
                    WP K mg W σ H F fp ((dcGo own tgt mk mv (xs.drop (i + 1)) acc5 e5).bind fun acc e' => .ok (.dic acc) (restE e1 (wipeE e' own) own)) (FinV K mg H F fp σ Q) := fun {H5 F5 fp5 e5 vacc5 acc5} g1 g2 g3 g4 g5 g6 g7 => by
                obtain ⟨fp6, w1, w2⟩ := g2.env.wipe own
                rw [hw] at w1
                exact ⟨F5, e5, fp6, vacc5, acc5, g1.sub fun a ha => (List.mem_cons.mp ha).elim (fun z => by rw [z]; exact List.mem_cons_self) fun z => List.mem_cons_of_mem _ (w2 a z), ⟨g2.le, w1, fun a ha => g2.own a (w2 a ha)⟩, g3, g4, fun z => g5 (w2 L z), g6, g7⟩
              have heldL : ∀ {Ha Fa Hb Fb : Hp} {fa fb : List Addr}, Stp Ha Fa fa Hb Fb fb → Ha L = some (.dK vacc) → Fa L = none → L ∉ fa → Hb L = some (.dK vacc) ∧ Fb L = none ∧ L ∉ fb := fun {Ha Fa Hb Fb fa fb} st a1 a2 a3 => by
                obtain ⟨b1, b2, b3⟩ := st.held (gp := [L]) (fun a ha => by
                  have : a = L := by simpa using ha
                  rw [this]; exact ⟨_, a1⟩) (fun a ha => by
                  have : a = L := by simpa using ha
                  rw [this]; exact a3) (fun a ha => by
                  have : a = L := by simpa using ha
                  rw [this]; exact a2)
                exact ⟨b1 L List.mem_cons_self _ a1, b2 L List.mem_cons_self, b3 L List.mem_cons_self⟩
              have s3' : Stp H1 F1 fp1 H3 F3 (L :: fp3) := s3.sub fun a ha => (List.mem_cons.mp ha).elim (fun z => by rw [z]; exact List.mem_cons_self) fun z => List.mem_cons_of_mem _ (sub3 a z)
              cases hmk : mk e3 with
              | bad => rw [hmk] at h2; exact h2.elim
              | exn x' e4 => rw [hmk] at h2; exact h2.elim
              | ok tk e4 =>
                rw [hmk] at h2
                intro y H4 F4 fp4 fpv4 p4
                obtain ⟨a1, a2, a3⟩ := p4.frz
                obtain ⟨c1, c2, c3⟩ := heldL a1 hL3 hLF3 hL4
                have s4 := s3'.trans (by simpa using a1.frameL (gp := [L]))
                refine ⟨_, e4, fp4, a2, ?_⟩
                have h2 : WP K mg W σ H F fp (((noX (mv e4)).bind fun u e5 => if isKey tk.view = true ∧ acc.length < sizeMax then dcGo own tgt mk mv (xs.drop (i + 1)) (putD acc tk.view u.view) e5 else .bad).bind fun acc e' => .ok (.dic acc) (restE e1 (wipeE e' own) own)) (FinV K mg H F fp σ Q) := h2
                cases hmv : mv e4 with
                | bad => rw [hmv] at h2; exact h2.elim
                | exn x' e5 => rw [hmv] at h2; exact h2.elim
                | ok tv e5 =>
                  rw [hmv] at h2
                  have h2 : WP K mg W σ H F fp ((if isKey tk.view = true ∧ acc.length < sizeMax then dcGo own tgt mk mv (xs.drop (i + 1)) (putD acc tk.view tv.view) e5 else .bad).bind fun acc e' => .ok (.dic acc) (restE e1 (wipeE e' own) own)) (FinV K mg H F fp σ Q) := h2
                  by_cases hz : isKey tk.view = true ∧ acc.length < sizeMax
                  · rw [if_pos hz] at h2
                    intro z H5 F5 fpe5 fpv5 p5
                    obtain ⟨q1, q2, q3⟩ := p5.frz
                    obtain ⟨d1, d2, d3⟩ := heldL q1 c1 c2 c3
                    have racc5 : DRk K mg (frzF F5 H5 fpv5) vacc acc := (((racc.mono st3.fz).mono a1.fz).mono q1.fz)
                    obtain ⟨kk, rfl, hkk, okk⟩ := key_of_DR a3 (by
                      have hz1 := hz.1
                      cases hv : tk.view <;> rw [hv] at hz1 <;> first | (cases hz1; done) | skip
                      · exact .inl ⟨_, rfl⟩
                      · exact .inr ⟨_, rfl⟩)
                    rw [hkk] at h2
                    have hlen : vacc.length < sizeLine := by rw [racc.length]; have := hz.2; rw [← sizeMax_eq]; exact this
                    refine ⟨vacc, kk, rfl, d1, hlen, ?_⟩
                    have hupd : ∀ a ∈ fpe5, ∀ o, H5 a = some o → upd H5 L (.dK (putK vacc kk z)) a = some o := fun a ha o q => by
                      rw [upd_ne (fun z => d3 (by rw [← z]; exact ha))]; exact q
                    refine fin (F5 := frzF F5 H5 fpv5) (fp5 := fpe5) (vacc5 := putK vacc kk z) (acc5 := putD acc (keyD kk) tv.view) ?_ ⟨fun a o q => ?_, q2.env.keep (Same.refl _) hupd, q2.own⟩ upd_same d2 d3 (putK_ok okk q3 racc5) h2
                    · have := s4.trans (by simpa using q1.frameL (gp := [L]))
                      exact this.trans (Stp.wr List.mem_cons_self)
                    · have : a ≠ L := fun z => by rw [z, d2] at q; cases q
                      rw [upd_ne this]
                      exact q2.le a o q
                  · rw [if_neg hz] at h2; exact h2.elim
        · have ei : i = xs.length := by omega
          subst ei
          refine .inl ⟨wk2.stops H2 ss2.le, ?_⟩
          rw [List.drop_length] at h2
          have h2 : FinV K mg H F fp σ Q (.dic acc) (restE e1 (wipeE e2 own) own) := h2
          obtain ⟨fp3, r1, r2⟩ := rest_ok own hnd (fun j hj => (hod j hj).imp id fun ⟨d, v, a1, a2, a3⟩ => ⟨d, v, a1, a2, a3.mono s2.fz⟩) ss2.env
          refine h2 (.ref L) H2 F2 fp3 [L] ⟨(s1.trans s2).sub fun a ha => ?_, ⟨ss2.le, r1, fun a ha => ss2.own a (r2 a ha)⟩, (.dK hLv racc), fun a ha q => ?_, fun a ha => ?_⟩
          · exact (List.mem_append.mp ha).elim (fun z => by have : a = L := by simpa using z
                                                            rw [this]; exact List.mem_cons_self) fun z => List.mem_cons_of_mem _ (r2 a z)
          · have : a = L := by simpa using ha
            rw [this] at q
            exact hLn (r2 L q)
          · have : a = L := by simpa using ha
            rw [this]; exact hLF

variable {k : Nat} {kx vx : Expr} {xk xv : IE}
theorem e_dc {own : List (Str × Nat)} {sc : Scope} {tgt : TGt} {it : ITK} {its : List IE} (c : Cq X W k) (hi : JI X W it its tg iter) (hg : ∀ (s : Shared) (H : Hp) (C : Addr) (cl : List (Str × Addr)) (fp : List Addr), JG (X.blk s H sc (compEnvC sc cl C X.env) fp) tgt tg)
    (hk : ∀ (s : Shared) (H : Hp) (C : Addr) (cl : List (Str × Addr)) (fp : List Addr), JE (X.blk s H sc (compEnvC sc cl C X.env) fp) W0 xk kx) (he : ∀ (s : Shared) (H : Hp) (C : Addr) (cl : List (Str × Addr)) (fp : List Addr), JE (X.blk s H sc (compEnvC sc cl C X.env) fp) W0 xv vx)
    (ok : blkC X.N X.env.scope sc own = true := by rfl) (hw : (tgt.has.all fun j => (own.map (·.2)).contains j) = true := by rfl) (hs : ∀ x, foldedSetIterable iter X.env x = pure x := by intro _; rfl) : JE X W (.dc tgt it its xk xv (own.map (·.2))) (.DictComp kx vx [⟨tg, iter, [], 0⟩] sc pos) := by
  refine PE.imp (pe_dc (g := gOf X.K tgt) (tt := tYes) (tk := tD X.K X.mg W0 (sem xk).1) (tv := tD X.K X.mg W0 (sem xv).1) c.calm c.nd hi (blkOk_by ok) hg (fun _ _ _ _ _ => pts_nil) hk he hs) fun σ H Q h => ?_
  exact dc_use hw (by
    obtain ⟨F, e, fp, ss, h⟩ := h
    refine ⟨F, e, fp, ss, ?_⟩
    have h : WP X.K X.mg W σ H F fp ((evs its e).bind fun ts e1 => (M.lift (itemsOf it (OT.views ts)) e1).bind fun xs e2 => dcRun (own.map (·.2)) tgt (sem xk).1 (sem xv).1 xs e2) (FinV X.K X.mg H F fp σ Q) := h
    show WP X.K X.mg W σ H F fp (((evs its e).bind fun ts e1 => (M.lift (itemsOf it (OT.views ts)) e1)).bind fun xs e2 => dcRun (own.map (·.2)) tgt (sem xk).1 (sem xv).1 xs e2) (FinV X.K X.mg H F fp σ Q)
    cases hm : evs its e with
    | bad => rw [hm] at h; exact h
    | exn y e1 => rw [hm] at h; exact h
    | ok ts e1 => rw [hm] at h; exact h)
end
end Rx
end

section
/-! Rx, part 19: d.get(k), xs.pop(i), min, dict(..). -/
namespace Rx
open PySem PySem.Spec PyProof.Rows L2
section
variable {K : PySem.W.Frag} {mg : Str → Option Value} {W : WX} {σ : L2.St} {H F H0 F0 : Hp} {fp fp0 : List Addr} {e : Ev}
theorem tyM_use {β : Type} {T : String} {x : IE} {r : Option D} {v : V} {f : Unit → Ev → R β} {k : β → Ev → Prop} (ss : SS K mg H F σ e fp) (o : OpH K mg F σ x r v) (h : WP K mg W σ H0 F0 fp0 ((tyM T x r e).bind f) k) :
    ∃ d, PR K mg H F v d ∧ d.ty = some T ∧ WP K mg W σ H0 F0 fp0 (f () e) k := by
  have h2 : WP K mg W σ H0 F0 fp0 ((fin x r e).bind fun d e1 => (if d.ty = some T then R.ok () e1 else .bad).bind f) k := by
    have e1 : (tyM T x r e).bind f = (fin x r e).bind fun d e1 => (if d.ty = some T then R.ok () e1 else .bad).bind f := by
      unfold tyM
      rw [M.bind_app]
      cases fin x r e <;> rfl
    rw [← e1]; exact h
  obtain ⟨d, pd, h3⟩ := fin_use ss o h2
  by_cases hd : d.ty = some T
  · rw [if_pos hd] at h3; exact ⟨d, pd, hd, h3⟩
  · rw [if_neg hd] at h3; exact h3.elim
theorem PR.dics {v : V} {ds : List (D × D)} (le : Same F H) (p : PR K mg H F v (.dic ds)) : ∃ a kvs, v = .ref a ∧ H a = some (.dK kvs) ∧ DRk K mg F kvs ds := by
  cases p with
  | fz d =>
    cases d with
    | dK h r => exact ⟨_, _, rfl, le _ _ h, r⟩
  | dK h r => exact ⟨_, _, rfl, h, r⟩
end
section
variable {X : Cx} {W : WX} {k : Nat} {P : Nat → Bool} {pos p p2 apos cpos : Pos} {a b c e o : Expr} {es rest : List Expr} {xa xb xc x : IE} {xs : List IE}
theorem m1_of {m : Str} (h1 : attributeBase o m X.env (eval o X.env) = eval o X.env) (h2 : ((backTo cpos (starEach [e] X.env)).all (fun x => !x.1) && (backToKw cpos (keywordEach [] X.env)).all (fun x => x.1.isSome)
    && decide (([e] : List Expr).length + ([] : List Keyword).length + (if ([] : List Keyword).isEmpty then 0 else 1) < 30)) = true) (h3 : (apos.endLine == cpos.line) = true) (h4 : backTo cpos (starEach [e] X.env) = [(false, eval e X.env)]) : M1 X o m apos e cpos := ⟨h1, h2, h3, h4⟩
/-- d.get(k) -/
theorem e_get (c : Cq X W k) (ha : JO X W xa o) (hb : JO X W xb e) (h1 : attributeBase o "get" X.env (eval o X.env) = eval o X.env := by rfl) (h2 : ((backTo cpos (starEach [e] X.env)).all (fun x => !x.1) && (backToKw cpos (keywordEach [] X.env)).all (fun x => x.1.isSome)
    && decide (([e] : List Expr).length + ([] : List Keyword).length + (if ([] : List Keyword).isEmpty then 0 else 1) < 30)) = true := by rfl) (h3 : (apos.endLine == cpos.line) = true := by rfl) (h4 : backTo cpos (starEach [e] X.env) = [(false, eval e X.env)] := by rfl) :
    JE X W (.mth "dict" "get" getDk xa [xb]) (.Call (.Attribute o "get" apos) [e] [] cpos) := by
  refine PE.imp (pe_dget1 c.u1 ha hb (m1_of h1 h2 h3 h4)) fun σ H Q h => ?_
  obtain ⟨F, en, fp, ss, h⟩ := h
  have h : WP X.K X.mg W σ H F fp ((opd xa (sem xa).1 en).bind fun ra e1 => (tyM "dict" xa ra e1).bind fun _ e2 => (evOps [xb] e2).bind fun rs e3 => (fin xa ra e3).bind fun x e4 => (fins [xb] rs e4).bind fun ds e5 => M.lift (getDk x ds) e5) (FinV X.K X.mg H F fp σ Q) := h
  refine opd_use Stp.refl ss h fun v H1 F1 fp1 ra e1 s1 _ ss1 o1 h1 => ?_
  obtain ⟨d, pd, hty, h2⟩ := tyM_use ss1 o1 h1
  cases d <;> first | (simp [D.ty] at hty; done) | skip
  rename_i ds
  obtain ⟨ad, kvs, rfl, hH, rk⟩ := pd.dics ss1.le
  refine ⟨ad, rfl, .inl ⟨kvs, .inl hH⟩, ?_⟩
  have h2 : WP X.K X.mg W σ H F fp ((opd xb (sem xb).1 e1).bind fun rb e3 => (fin xa ra e3).bind fun x e4 => (fins [xb] [rb] e4).bind fun ds e5 => M.lift (getDk x ds) e5) (FinV X.K X.mg H F fp σ Q) := by
    have e0 : (evOps [xb] e1) = (opd xb (sem xb).1 e1).bind fun t e2 => .ok [t] e2 := rfl
    rw [e0] at h2
    cases hm : opd xb (sem xb).1 e1 with
    | bad => rw [hm] at h2; exact h2
    | exn z e2 => rw [hm] at h2; exact h2
    | ok t e2 => rw [hm] at h2; exact h2
  refine opd_use s1 ss1 h2 fun w H2 F2 fp2 rb e2 s2 sf2 ss2 o2 h3 => ?_
  obtain ⟨d2, pd2, h4⟩ := fin_use ss2 (o1.mono sf2) h3
  have h4 : WP X.K X.mg W σ H F fp ((fin xb rb e2).bind fun y e5 => M.lift (getDk d2 [y]) e5) (FinV X.K X.mg H F fp σ Q) := by
    have e0 : (fins [xb] [rb] e2) = (fin xb rb e2).bind fun y e4 => .ok [y] e4 := rfl
    rw [e0] at h4
    cases hm : fin xb rb e2 with
    | bad => rw [hm] at h4; exact h4
    | exn z e4 => rw [hm] at h4; exact h4
    | ok t e4 => rw [hm] at h4; exact h4
  obtain ⟨y, py, h5⟩ := fin_use ss2 o2 h4
  obtain ⟨t, ht, hq⟩ := lift_end s2 ss2 h5
  cases d2 <;> first | (cases ht; done) | skip
  rename_i ds2 _
  obtain ⟨a2, kvs2, ea, hH2, rk2⟩ := pd2.dics ss2.le
  cases ea
  have ht : (if isKey y = true then some (OT.fz ((lookD ds2 y).getD .non)) else none) = some t := ht
  by_cases hk : isKey y = true
  · rw [if_pos hk] at ht
    cases ht
    obtain ⟨kk, rfl, rfl, okk⟩ := key_of_DR (py.all ss2.le) (by
      cases y <;> first | (cases hk; done) | skip
      · exact .inl ⟨_, rfl⟩
      · exact .inr ⟨_, rfl⟩)
    refine ⟨_, DGet.k hH2, ?_⟩
    rcases valK (k := kk) rk2 with ⟨l1, l2⟩ | ⟨dd, vv, l1, l2, r⟩
    · rw [l1] at hq; rw [l2]
      exact hq.same ss2.le .non
    · rw [l1] at hq; rw [l2]
      exact hq.same ss2.le r
  · rw [if_neg hk] at ht; cases ht
/-- an index that leaves all as it is -/
def CalmIx (x : IE) : Prop := ∀ e : Ev, (∃ n : Int, (sem x).1 e = .ok (.fz (.int n)) e) ∨ evOpt (some x) e = .bad
theorem calm_con {n : Int} : CalmIx (.con (.int n)) := fun e => .inl ⟨n, rfl⟩
theorem calm_var {j : Nat} : CalmIx (.var j) := fun e => by
  have h : ∀ m : M OT, evOpt (some (.var j)) e = ((sem (.var j)).1 e).bind fun t e1 => intK t.view e1 := fun _ => rfl
  cases hj : e.at j with
  | none =>
    refine .inr ?_
    have : (sem (.var j)).1 e = .bad := by show M.read j e = .bad; simp only [M.read, hj]
    rw [h (M.read j), this]; rfl
  | some t =>
    cases t with
    | fz d =>
      have hs : (sem (.var j)).1 e = .ok (.fz d) e := by show M.read j e = _; simp only [M.read, hj]
      cases d <;> first | exact .inl ⟨_, hs⟩ | (refine .inr ?_; rw [h (M.read j), hs]; rfl)
    | lst ts =>
      refine .inr ?_
      show ((M.read j e).bind fun t e1 => intK t.view e1) = _
      simp only [M.read, hj]; rfl
    | dic ts =>
      refine .inr ?_
      show ((M.read j e).bind fun t e1 => intK t.view e1) = _
      simp only [M.read, hj]; rfl
    | ins c ts =>
      refine .inr ?_
      show ((M.read j e).bind fun t e1 => intK t.view e1) = _
      simp only [M.read, hj]; rfl
/-- xs.pop(i), xs a list of its own, the item data -/
theorem e_popi (j : Nat) {n : Str} (hx : JE X W x e) (hc : CalmIx x) (hN : X.N[j]? = some n := by rfl) (hvi : Vis X.env.scope n := by first | exact Or.inl rfl | exact Or.inr (Or.inl rfl) | exact Or.inr (Or.inr rfl)) (hd : (n == ("__debug__" : Str)) = false := by decide) (hcd : (n == ("__classdict__" : Str)) = false := by decide)
    (hbase : attributeBase (.Name n p) "pop" X.env (eval (.Name n p) X.env) = eval (.Name n p) X.env := by rfl)
    (hfew : ((backTo cpos (starEach (e :: []) X.env)).all (fun x => !x.1) && (backToKw cpos (keywordEach [] X.env)).all (fun x => x.1.isSome)
      && decide ((e :: []).length + ([] : List Keyword).length + (if ([] : List Keyword).isEmpty then 0 else 1) < 30)) = true := by rfl)
    (hline : (apos.endLine == cpos.line) = true := by rfl) (hs : starEach (e :: []) X.env = (false, eval e X.env) :: starEach [] X.env := by rfl) (hplain : (backTo cpos (starEach [] X.env)).any (·.1) = false := by rfl) :
    JE X W (.pop j [] (some x)) (.Call (.Attribute (.Name n p) "pop" apos) [e] [] cpos) := by
  refine PE.imp (pe_bm PySem.F.plainAttrs_list PySem.F.slot_list_pop PySem.F.type_list_pop mt_popAt (pe_var hN hvi hd hcd) (pa_cons hx pa_nil hs) hbase hfew hline hs hplain) fun σ H Q h => ?_
  obtain ⟨F, en, fp, ss, h⟩ := h
  have h : WP X.K X.mg W σ H F fp ((evOpt (some x) en).bind fun k => fun e => (match e.at j with
    | some t => (match nav e t [] with
      | some u => (match popO k u with
        | some (d, u') => (match updAt j [] (fun _ => some u') e with
          | some e' => .ok (.fz d) e'
          | none => .bad)
        | none => .bad)
      | none => .bad)
    | none => .bad)) (FinV X.K X.mg H F fp σ Q) := h
  rcases hc en with ⟨i, hi⟩ | hbad
  · have e1 : evOpt (some x) en = .ok (some i) en := by
      show ((sem x).1 en).bind (fun t e1 => intK t.view e1) = _
      rw [hi]; rfl
    rw [e1] at h
    cases hj : en.at j with
    | none => simp only [R.bind, hj] at h; exact h.elim
    | some t =>
      simp only [R.bind, hj, nav] at h
      cases t with
      | fz d => exact h.elim
      | dic d => exact h.elim
      | ins c d => exact h.elim
      | lst ts =>
        obtain ⟨la, vs, g, rest, l⟩ := ss.list hj
        refine ⟨.ref la, l.slot, tyL l.obj, F, en, fp, ss, ?_⟩
        rw [hi]
        intro v H1 F1 fpe fpv vp
        cases vp.val with
        | fz dv =>
          cases dv
          cases hp : popO (some i) (.lst ts) with
          | none => rw [hp] at h; exact h.elim
          | some q =>
            obtain ⟨d, u'⟩ := q
            rw [hp] at h
            have hp : ((plc ts.length i).bind fun n => (ts[n]?).bind fun c => (match c with
              | .fz d => some (d, OT.lst (ts.eraseIdx n))
              | _ => none)) = some (d, u') := hp
            cases hn : plc ts.length i with
            | none => rw [hn] at hp; cases hp
            | some m =>
              rw [hn] at hp
              have hp : ((ts[m]?).bind fun c => (match c with
                | .fz d => some (d, OT.lst (ts.eraseIdx m))
                | _ => none)) = some (d, u') := hp
              cases ht : ts[m]? with
              | none => rw [ht] at hp; cases hp
              | some c =>
                rw [ht] at hp
                cases c with
                | lst q => cases hp
                | dic q => cases hp
                | ins q r => cases hp
                | fz dd =>
                  cases hp
                  obtain ⟨la2, vs2, g2, rest2, l2⟩ := vp.ss.list hj
                  have : la2 = la := by
                    have := l2.slot.symm.trans l.slot
                    cases this; rfl
                  subst this
                  obtain ⟨v0, g0, hv0, o0⟩ := OTRs.get l2.its ht
                  cases o0 with
                  | fz d0 =>
                    have hlen : vs2.length = ts.length := by
                      have : ∀ {vs : List V} {ts : List OT} {fp : List Addr}, OTRs X.K X.mg H1 F1 vs ts fp → vs.length = ts.length := fun {vs} => by
                        induction vs with
                        | nil => intro ds fp r; cases r; rfl
                        | cons v vs ih => intro ds fp r; cases r with | cons a b c => exact congrArg (· + 1) (ih b)
                      exact this l2.its
                    obtain ⟨q1, q2, q3⟩ := plc_seq hn
                    refine ⟨la2, vs2, i, m, v0, rfl, rfl, l2.obj, ?_, ?_, by rw [hlen]; exact q1, hv0, ?_⟩
                    · have := l2.few; rw [sizeLine_eq] at this; omega
                    · have := l2.few; rw [sizeLine_eq] at this; omega
                    · obtain ⟨g3, r3, sub3⟩ := OTRs.erase m l2.its
                      obtain ⟨fp', s1, s2⟩ := LsAt.put vp.ss l2 (vs' := vs2.eraseIdx m) (by
                        have h1 := l2.few
                        have h2 : (vs2.eraseIdx m).length ≤ vs2.length := by rw [List.length_eraseIdx]; split <;> omega
                        omega) r3 (fun z => l2.na (sub3 _ z)) (fun b hb => l2.dis b (sub3 b hb)) fun b hb => vp.ss.own b ((l2.all b).mpr (.inl (.inr (sub3 b hb))))
                      have hu : updAt j [] (fun _ => some (OT.lst (ts.eraseIdx m))) en = some (en.set j (some (OT.lst (ts.eraseIdx m)))) := by
                        simp only [updAt, hj, setAt, Option.map_some]
                      simp only [hu] at h
                      have h : FinV X.K X.mg H F fp σ Q (.fz d) (en.set j (some (OT.lst (ts.eraseIdx m)))) := h
                      refine h v0 _ F1 fp' [] ⟨(vp.st.trans (l2.stp (gp := []))).sub fun b hb => ?_, s1, .fz d0, nm, nm⟩
                      have hb : b ∈ fp' := by simpa using hb
                      have : b ∈ fpe := by
                        rcases s2 b hb with (z | z) | z
                        · exact (l2.all b).mpr (.inl (.inl z))
                        · exact (l2.all b).mpr (.inl (.inr (sub3 b z)))
                        · exact (l2.all b).mpr (.inr z)
                      simpa using this
  · rw [hbad] at h; exact h.elim
/-! ### built-ins -/
theorem bi_min (hc : X.calm = true) (h : X.mg "min" = none) : HasBi X "min" minB := ⟨h, by decide, .inl ⟨"min", rfl, CallR.cases fun ds t e => by
  match ds, e with
  | [.int i, .int j], e =>
    cases e
    refine ⟨_, call_min2 hc, fun F H vs Q le p q => ?_⟩
    cases p with
    | cons p1 p2 =>
      cases p2 with
      | cons p2 p3 =>
        cases p3
        cases p1.all le
        cases p2.all le
        exact ⟨_, _, rfl, q.int le⟩⟩⟩
theorem FinP.newK {K : PySem.W.Frag} {mg : Str → Option Value} {H F : Hp} {ds : List (D × D)} {kvs : List (Key × V)} {Q : VK} {p : Addr} (le : Same F H) (h : FinP K mg H F (.dic ds) Q) (hp : H p = none) (r : DRk K mg F kvs ds) : Q (.ref p) (upd H p (.dK kvs)) :=
  h _ _ F [p] (Stp.newO hp) (same_new le hp) (.dK upd_same r) fun a ha => by
    have : a = p := by simpa using ha
    rw [this]
    exact Same.free le hp
theorem pairs_ok {K : PySem.W.Frag} {mg : Str → Option Value} {H F : Hp} (le : Same F H) : ∀ {vs : List V} {xs : List D} {kv0 : List (Key × V)} {acc res : List (D × D)}, DRs K mg F vs xs → pairsD xs acc = some res → DRk K mg F kv0 acc →
    ∃ (ps : List Addr) (kvs : List (Key × V)), vs = ps.map V.ref ∧ Paired (fun p kv => SqT K H p [kV kv.1, kv.2]) ps kvs ∧ DRk K mg F (mergeK kv0 kvs) res := fun {vs} => by
  induction vs with
  | nil =>
    intro xs kv0 acc res r h r0
    cases r
    cases h
    exact ⟨[], [], rfl, .nil, r0⟩
  | cons v vs ih =>
    intro xs kv0 acc res r h r0
    cases r with
    | cons r1 r2 =>
      rename_i d ds
      cases d <;> first | (cases h; done) | skip
      rename_i es
      match es, h with
      | [k, w], h =>
        have h : (if isKey k = true then pairsD ds (putD acc k w) else none) = some res := h
        by_cases hk : isKey k = true
        · rw [if_pos hk] at h
          cases r1 with
          | tup s1 s2 s3 =>
            cases s3 with
            | cons t1 t2 =>
              cases t2 with
              | cons t3 t4 =>
                cases t4
                obtain ⟨kk, rfl, rfl, okk⟩ := key_of_DR t1 (by
                  cases k <;> first | (cases hk; done) | skip
                  · exact .inl ⟨_, rfl⟩
                  · exact .inr ⟨_, rfl⟩)
                obtain ⟨ps, kvs, e1, e2, e3⟩ := ih r2 h (putK_ok okk t3 r0)
                exact ⟨_ :: ps, (kk, _) :: kvs, by rw [e1]; rfl, .cons (Same.seqT le s1) e2, e3⟩
        · rw [if_neg hk] at h; cases h
theorem bi_dict (hc : X.calm = true) (h : X.mg "dict" = none) : HasBi X "dict" dictB := ⟨h, by decide, .inr ⟨"dict", rfl, CallR.cases fun ds t e => by
  obtain ⟨d, rfl⟩ := one_of e rfl (fun a b r => by cases a <;> rfl)
  cases d <;> first | (cases e; done) | skip
  case lst xs =>
    have e : (pairsD xs []).map OT.dic = some t := e
    cases hp : pairsD xs [] with
    | none => rw [hp] at e; cases e
    | some res =>
      rw [hp] at e
      cases e
      refine ⟨_, call_dictP hc, fun F H vs Q le p q => ?_⟩
      obtain ⟨v, rfl, p2⟩ := p.one
      obtain ⟨a, vs, rfl, h1, h2, h3⟩ := p2.items le
      obtain ⟨ps, kvs, rfl, e2, e3⟩ := pairs_ok le h3 hp .nil
      exact ⟨a, ps, kvs, rfl, .inl (.inl h1), e2, fun p hp => q.newK le hp e3⟩
  case dic kvs =>
    cases e
    refine ⟨_, call_dictD, fun F H vs Q le p q => ?_⟩
    obtain ⟨v, rfl, p2⟩ := p.one
    obtain ⟨a, kvs, rfl, h1, h2⟩ := p2.dics le
    exact ⟨a, kvs, rfl, .inl h1, fun p hp => q.newK le hp h2⟩⟩⟩
end
end Rx
end

section
/-! Rx, part 20: names of defs as values; what the module holds of RightsError. -/
namespace Rx
open PySem PySem.Spec PyProof.Rows L2
section
variable {X : Cx} {W : WX} {pos : Pos}
theorem e_fn {j : Nat} {x : Str} {ms : List Bool} {f : Fn} (h : HasFn X.prog X.w X.K X.mg X.base j x ms f) (hg : Gl X x := by rfl) (hd : (x == ("__debug__" : Str)) = false := by decide) : JE X W (.con (.fn x)) (.Name x pos) := by
  obtain ⟨fa, fd, ps, _, hm, _, _⟩ := h.ex
  exact pe_c (pe_glob hg hm (v := .ref fa) rfl hd) fun F => .fn hm
end
section
variable {X : Cx} {W : WX} {k : Nat} {P : Nat → Bool}
/-- name = {..} on one line, the name a local -/
theorem ps_setDc {i : Nat} {y : Str} {py : Pos} {kx vx tg iter : Expr} {ifs : List Expr} {scope : Scope} {own : List (Str × Nat)} {pos spos : Pos} {wi : TI} {g : TG} {tt : TT} {tk tv : TE} (hc : X.calm = true) (hN : X.N.Nodup) (hy : X.N[i]? = some y) (hyl : X.env.scope.names.lookup y = some .local)
    (hsw : swapsWith (.DictComp kx vx [⟨tg, iter, ifs, 0⟩] scope pos) (some (.Name y py)) spos.line X.env = pure true) (hi : PI X tg iter wi) (ok : BlkOk X.N X.env.scope scope own)
    (hg : ∀ (s : Shared) (H : Hp) (C : Addr) (cl : List (Str × Addr)) (fp : List Addr), PG (X.blk s H scope (compEnvC scope cl C X.env) fp) tg g) (ht : ∀ (s : Shared) (H : Hp) (C : Addr) (cl : List (Str × Addr)) (fp : List Addr), PTs (X.blk s H scope (compEnvC scope cl C X.env) fp) ifs tt)
    (hk : ∀ (s : Shared) (H : Hp) (C : Addr) (cl : List (Str × Addr)) (fp : List Addr), PE (X.blk s H scope (compEnvC scope cl C X.env) fp) kx tk)
    (he : ∀ (s : Shared) (H : Hp) (C : Addr) (cl : List (Str × Addr)) (fp : List Addr), PE (X.blk s H scope (compEnvC scope cl C X.env) fp) vx tv) (hs : ∀ x, foldedSetIterable iter X.env x = pure x := by intro _; rfl) :
    PS X (.Assign [.Name y py] (.DictComp kx vx [⟨tg, iter, ifs, 0⟩] scope pos) spos) (tAsg (tDc wi g tt tk tv (own.map (·.2))) (gName i)) := by
  refine ⟨fun pins s σ H D I h => ?_⟩
  rw [exec_Assign_Name_used _ _ _ _ hsw]
  refine wpAny_bind (wpAny_standAt (wpAny_bind ?_))
  show wpAny _ X.A (do let _ ← comprehension (.DictComp kx vx [⟨tg, iter, ifs, 0⟩] scope pos) scope X.env (firstIterPos [⟨tg, iter, ifs, 0⟩] pos) newDict false (eval iter X.env) (some (assign (.Name y py) X.env))) _ _ s
  have h : tDc wi g tt tk tv (own.map (·.2)) σ H (fun x H1 => gName i x σ H1 D.nx) := h
  refine wpAny_bind (thn (dc_core (Qf := fun _ s' => SP X pins D .next s') hc hN I hi ok hg ht hk he hs h fun L C s' m H' I' q hn f => ?_) fun _ s' hq => wpAny_pure (wpAny_pure hq))
  show wpAny _ _ (assign (.Name y py) X.env (.ref L)) _ _ _
  refine wpAny_assign_Name (store_ok2 (v := V.ref L) I' hN hy (.inl hyl) rfl (fun s2 I2 ⟨a, sb, ha⟩ => ?_) (.inr hyl))
  obtain ⟨f0, f1, f2, f3, f4, f5⟩ := f
  have haC : C ≠ a := by
    rcases ha with z | z
    · rw [z]; exact f1
    · exact fun e => f4 y a z e.symm
  refine ⟨m, hn.sameBut sb haC, fun h3 sb3 => ?_⟩
  exact ⟨_, H', I2.turned (t' := s2.toks) (fun b o hb e => (sb3.2 b hb).trans e) f0 f1 f3 f4 f5, q⟩
theorem swd_true {kx vx : Expr} {gs : List Comprehension} {scope : Scope} {pos py : Pos} {y : Str} {l : Nat} {env : Env} (hk : env.scope.kind = .function) (hy : env.scope.names.lookup y = some .local) (hl : (py.line == pos.line) = true)
    (ha : (scope.names.any fun (n, k) => n == y && (k == .local || k == .cell)) = false) : swapsWith (.DictComp kx vx gs scope pos) (some (.Name y py)) l env = pure true := by
  have ky : env.kindOf y = some .local := hy
  have hb : env.blockKind = .function := by unfold Env.blockKind; rw [hk]; rfl
  unfold swapsWith
  simp only [hb, ky, ha, Expr.pos, hl]
  rfl
variable {iter tg kx vx : Expr} {xk xv : IE}
theorem s_dc (j : Nat) {y : Str} {own : List (Str × Nat)} {sc : Scope} {tgt : TGt} {it : ITK} {its : List IE} {pos py spos : Pos} (c : Cq X W k) (hi : JI X W it its tg iter) (hg : ∀ (s : Shared) (H : Hp) (C : Addr) (cl : List (Str × Addr)) (fp : List Addr), JG (X.blk s H sc (compEnvC sc cl C X.env) fp) tgt tg)
    (hkx : ∀ (s : Shared) (H : Hp) (C : Addr) (cl : List (Str × Addr)) (fp : List Addr), JE (X.blk s H sc (compEnvC sc cl C X.env) fp) W0 xk kx) (he : ∀ (s : Shared) (H : Hp) (C : Addr) (cl : List (Str × Addr)) (fp : List Addr), JE (X.blk s H sc (compEnvC sc cl C X.env) fp) W0 xv vx)
    (hk : X.env.scope.kind = .function := by rfl) (hP : P j = false := by rfl) (hy : X.N[j]? = some y := by rfl) (hyl : X.env.scope.names.lookup y = some .local := by rfl) (hl : (py.line == pos.line) = true := by rfl) (ha : (sc.names.any fun (n, k) => n == y && (k == .local || k == .cell)) = false := by decide +kernel) (ok : blkC X.N X.env.scope sc own = true := by rfl) (hw : (tgt.has.all fun j => (own.map (·.2)).contains j) = true := by rfl) (hs : ∀ x, foldedSetIterable iter X.env x = pure x := by intro _; rfl) :
    JS X W P (.asg j (.dc tgt it its xk xv (own.map (·.2)))) (.Assign [.Name y py] (.DictComp kx vx [⟨tg, iter, [], 0⟩] sc pos) spos) := by
  refine ps_asgD hP (ps_setDc (g := gOf X.K tgt) (tt := tYes) (tk := tD X.K X.mg W0 (sem xk).1) (tv := tD X.K X.mg W0 (sem xv).1) c.calm c.nd hy hyl (swd_true hk hyl hl ha) hi (blkOk_by ok) hg (fun _ _ _ _ _ => pts_nil) hkx he hs) fun σ H Q h => ?_
  exact dc_use hw (by
    obtain ⟨F, e, fp, ss, h⟩ := h
    refine ⟨F, e, fp, ss, ?_⟩
    have h : WP X.K X.mg W σ H F fp ((evs its e).bind fun ts e1 => (M.lift (itemsOf it (OT.views ts)) e1).bind fun xs e2 => dcRun (own.map (·.2)) tgt (sem xk).1 (sem xv).1 xs e2) (FinV X.K X.mg H F fp σ Q) := h
    show WP X.K X.mg W σ H F fp (((evs its e).bind fun ts e1 => (M.lift (itemsOf it (OT.views ts)) e1)).bind fun xs e2 => dcRun (own.map (·.2)) tgt (sem xk).1 (sem xv).1 xs e2) (FinV X.K X.mg H F fp σ Q)
    cases hm : evs its e with
    | bad => rw [hm] at h; exact h
    | exn y e1 => rw [hm] at h; exact h
    | ok ts e1 => rw [hm] at h; exact h)
end
/-! a chain as a test -/
theorem bind_ok {α β : Type} {r : R α} {f : α → Ev → R β} {b : β} {e1 : Ev} (h : r.bind f = .ok b e1) : ∃ a e0, r = .ok a e0 ∧ f a e0 = .ok b e1 := by
  cases r with
  | bad => cases h
  | exn x e => cases h
  | ok a e => exact ⟨a, e, rfl, h⟩
theorem chn_bl {g1 g2 : D → D → Option Bool} {xa xb xc : IE} {ma mb mc : M OT} {e e1 : Ev} {t : OT} (h : chnM g1 g2 xa xb xc ma mb mc e = .ok t e1) : ∃ k, t = .fz (.bl k) := by
  obtain ⟨ra, ea, _, h⟩ := bind_ok h
  obtain ⟨rb, eb, _, h⟩ := bind_ok h
  obtain ⟨x, e2, _, h⟩ := bind_ok h
  obtain ⟨y, e3, _, h⟩ := bind_ok h
  obtain ⟨k, e4, _, h⟩ := bind_ok h
  cases k with
  | false => cases h; exact ⟨false, rfl⟩
  | true =>
    obtain ⟨rc, ec, _, h⟩ := bind_ok h
    obtain ⟨y2, e5, _, h⟩ := bind_ok h
    obtain ⟨z, e6, _, h⟩ := bind_ok h
    obtain ⟨k, e7, _, h⟩ := bind_ok h
    cases h; exact ⟨k, rfl⟩
section
variable {X : Cx} {W : WX} {a b c : Expr} {xa xb xc : IE} {pos : Pos}
theorem t_chn {o1 o2 : CmpOp} {g1 g2 : D → D → Option Bool} (ho : OpD X (compareOp o1) (bl2 g1)) (ho' : OpD X (compareOp o2) (bl2 g2)) (ha : JO X W xa a) (hb : JO X W xb b) (hc : JO X W xc c) (hm : lastMarks [o1, o2] [b, c] = false := by with_unfolding_all rfl) :
    JT X W (.chn o1 o2 g1 g2 xa xb xc) (.Compare a [o1, o2] [b, c] pos) := by
  refine PT.imp (pt_chain ho ho' ha hb hc hm) fun σ H Q h => ?_
  refine chn_use (o1 := o1) (o2 := o2) (Q := fun x H' => ∃ k, x = .bl k ∧ Q k H') ?_
  obtain ⟨F, en, fp, ss, h⟩ := h
  refine ⟨F, en, fp, ss, ?_⟩
  have h : WP X.K X.mg W σ H F fp (((chnM g1 g2 xa xb xc (sem xa).1 (sem xb).1 (sem xc).1 en).bind fun t e1 => .ok (some t.view) e1).bind fun r e1 => (M.lift r e1).bind fun d e2 => M.lift d.truth e2) (FinB X.K X.mg H F fp σ Q) := h
  show WP X.K X.mg W σ H F fp (chnM g1 g2 xa xb xc (sem xa).1 (sem xb).1 (sem xc).1 en) (FinV X.K X.mg H F fp σ fun x H' => ∃ k, x = .bl k ∧ Q k H')
  cases hm : chnM g1 g2 xa xb xc (sem xa).1 (sem xb).1 (sem xc).1 en with
  | bad => rw [hm] at h; exact h
  | exn x e1 => rw [hm] at h; exact h
  | ok t e1 =>
    rw [hm] at h
    obtain ⟨k, rfl⟩ := chn_bl hm
    have h : FinB X.K X.mg H F fp σ Q k e1 := h
    intro v H' F' fpe fpv vp
    cases vp.val with
    | fz dv =>
      cases dv
      exact ⟨k, rfl, h H' F' fpe (by simpa using vp.st) vp.ss⟩
end
/-- an error of the class at S is what «except S» names -/
theorem exm_self {K : PySem.W.Frag} {S : Addr} (h1 : PySem.W.subIn K (.ref S) (.type "BaseException") = some true) (h2 : PySem.W.isClsIn K S = true) (h3 : PySem.W.typeIn K (.ref S) = some (.type "type")) (h4 : PySem.W.subIn K (.ref S) (.ref S) = some true) :
    PySem.W.exmOne K (.ref S) (.ref S) = some true := by
  have e1 : (PySem.W.subIn K (.ref S) (.type "BaseException") == some true) = true := by rw [h1] <;> rfl
  have e2 : ((PySem.W.clsIn K S).isSome && PySem.W.typeIn K (.ref S) == some (.type "type")) = true := by
    have h2' : (PySem.W.clsIn K S).isSome = true := h2
    rw [h2', h3] <;> rfl
  show (if (PySem.W.subIn K (.ref S) (.type "BaseException") == some true) = true then (if ((PySem.W.clsIn K S).isSome && PySem.W.typeIn K (.ref S) == some (.type "type")) = true then PySem.W.subIn K (.ref S) (.ref S) else none) else none) = some true
  rw [if_pos e1, if_pos e2]
  exact h4
section
open PySem.W
theorem along_ve (K : Frag) : alongIn K "__init__" PySem.ReX.veTail = some (some (.builtin "ValueError.__init__")) := by kernel_rfl
theorem drop_own (C : Addr) (l : List Value) : ((Value.ref C :: l).dropWhile (· != .ref C)).drop 1 = l := by
  simp [List.dropWhile_cons]
theorem re_txt {P : Program} {K : Frag} {h : Heap} {mg : Str → Option Value} {C f1 cc cda : Addr} (X : K.In h) (G : h.Ns mainGlobals mg)
    {nm q : Str} {N : Addr} {bs : List Value} {sn : List Str} {sub : List Value} {ab : Bool} {col : Option Bool} {dd : Option Addr} {m0 m1 m2 m3 m5 : Option Value}
    {oc doc pm ct cl ccl : Value} {od an cld cdd : Option Addr} {osl csl ccs : Array (Option Value)} {vs : Array Value} {file : Str} {tf : Tok}
    (aC : nsIn K mainGlobals "RightsError" = some (some (.ref C))) (aS : nsIn K mainGlobals "super" = some none)
    (xL : K.lookup C = some (excClassObj nm q C N bs PySem.ReX.veTail true sn sub ab col dd m0 m1 m2 m3 m5 "ValueError.__new__"))
    (sa : findIn K (.ref C) "__setattr__" = some (some (.builtin "object.__setattr__"))) (ga : findIn K (.ref C) "__getattribute__" = some (some (.builtin "BaseException.__getattribute__"))) (gg : findIn K (.ref C) "__getattr__" = some none) (nb : findIn K (.ref C) "reason" = some none)
    (a1 : findIn K (.ref C) "__init__" = some (some (.ref f1))) (t1 : typeIn K (.ref f1) = some (.type "function"))
    (l1 : K.lookup f1 = some ⟨oc, od, .func (ksFn "__init__" "RightsError.__init__" (PySem.ReX.iA 4) (PySem.ReX.iB 4) PySem.ReX.iS .none .none doc pm an (.ref cda) ct cc), osl⟩) (c1 : codeIn K (.ref cda) "RightsError.__init__" = true)
    (l2 : K.lookup cc = some ⟨cl, cld, .cell (some (.ref C)), csl⟩) (l3 : K.lookup cda = some ⟨ccl, cdd, .fields vs, ccs⟩) (v3 : vs[2]? = some (.str file tf)) (f3 : ((P.main.file : Str) == file) = true)
    (kC : keepIn K (.ref C) = true) (eC : subIn K (.ref C) (.type "BaseException") = some true) (vC : subIn K (.ref C) (.type "ValueError") = some true) (tC : typeIn K (.ref C) = some (.type "type")) (hC : hasDictIn K C = true) (iC : isClsIn K C = true) (sC : subIn K (.ref C) (.ref C) = some true)
    (mr : mroIn K C (.ref C) = some true) (an' : nsIn K cStatics "thirdparty.any" = some none) (tp : (P.main.scope.names.lookup ("super" : Str)).isSome = false) : PySem.ReX.Txt K mg P C f1 :=
  have su : ks_superIn K C C "__init__" = some (some (.builtin "ValueError.__init__")) := by
    have hcl : clsIn K C = some { name := nm, bases := bs, mro := .ref C :: PySem.ReX.veTail, ns := N, qualname := q, hasDict := true, slotNames := sn, subclasses := sub, abstract := ab, collection := col, hasDel := false } := by unfold clsIn; rw [xL] <;> rfl
    unfold ks_superIn
    rw [hcl, Option.bind_some, drop_own]
    exact along_ve K
  { gC := mg_of X G aC, gS := mg_none_of X G aS, cls := ⟨nm, q, N, bs, sn, sub, ab, col, dd, m0, m1, m2, m3, m5, xL⟩, sa := sa, ga := ga, gg := gg, noN := nb, iC := a1, tC := t1, kC := kC, exC := eC, veC := vC, tyC := tC, hdC := hC, te := exm_self eC iC tC sC, sup := su, mro := mr, any := an', top := tp,
    fn := ⟨oc, od, doc, pm, an, cda, cc, ct, osl, l1, c1, ⟨cl, cld, csl, l2⟩, ccl, cdd, vs, ccs, file, tf, l3, v3, f3⟩ }
end
end Rx
end

section
/-! sorted, on data that are alike (plain Lean) -/
namespace Rx
open PySem
abbrev Tk := Int ⊕ List Nat
mutual
def D.toks : D → List Tk
  | .bl b => [.inl (if b = true then 1 else 0)]
  | .int i => [.inl i]
  | .str s => [.inr s]
  | .lst xs => D.tokss xs
  | .tup xs => D.tokss xs
  | _ => []
def D.tokss : List D → List Tk
  | [] => [.inl 0]
  | x :: xs => .inl 1 :: (D.toks x ++ D.tokss xs)
end
mutual
def D.alike : D → D → Bool
  | .non, .non => true
  | .bl _, .bl _ => true
  | .int _, .int _ => true
  | .str _, .str _ => true
  | .lst xs, .lst ys => D.alikes xs ys
  | .tup xs, .tup ys => D.alikes xs ys
  | _, _ => false
def D.alikes : List D → List D → Bool
  | x :: xs, y :: ys => D.alike x y && D.alikes xs ys
  | [], _ => true
  | _ :: _, [] => true
end
def tkLt : Tk → Tk → Bool
  | .inl a, .inl b => decide (a < b)
  | .inl _, .inr _ => true
  | .inr _, .inl _ => false
  | .inr a, .inr b => decide (a < b)
def tksLt : List Tk → List Tk → Bool
  | [], [] => false
  | [], _ :: _ => true
  | _ :: _, [] => false
  | x :: r, y :: t => tkLt x y || (!tkLt y x && tksLt r t)
/-- a before b, or as b -/
def D.le (a b : D) : Bool := !tksLt (D.toks b) (D.toks a)
def isTup1 : D → Bool
  | .tup (_ :: _) => true
  | _ => false
def notTN : D → Bool
  | .int _ => true
  | .str _ => true
  | _ => false
def sortOk (xs : List D) : Bool := D.eqoks 60 xs && (xs.all fun a => xs.all fun b => D.alike a b) && (xs.all isTup1 || xs.all notTN)
def sortedB : List D → Option OT
  | [.lst xs] => if xs.length < 2 then some (.ml xs) else if sortOk xs = true ∧ xs.length ≤ sizeMax then some (.ml (xs.mergeSort D.le)) else none
  | _ => none
end Rx
end

section
/-! Rx, part 21: sorted. -/
namespace Rx
open PySem PySem.Spec PyProof.Rows L2
mutual
theorem toks_py : ∀ d : D, PySem.W.keyToks (toPy d) = D.toks d
  | .non => rfl
  | .bl _ => rfl
  | .int _ => rfl
  | .str s => by
    show [Sum.inr (strOf s).cps.toList] = [Sum.inr s]
    simp [strOf]
  | .tup xs => toks_pys xs
  | .lst xs => toks_pys xs
  | .lk _ => rfl
  | .dic _ => rfl
  | .ins _ _ => rfl
  | .fn _ => rfl
theorem toks_pys : ∀ xs : List D, PySem.W.keyToksAll (toPys xs) = D.tokss xs
  | [] => rfl
  | x :: xs => by
    show Sum.inl 1 :: (PySem.W.keyToks (toPy x) ++ PySem.W.keyToksAll (toPys xs)) = Sum.inl 1 :: (D.toks x ++ D.tokss xs)
    rw [toks_py x, toks_pys xs]
end
theorem tkLt_py (a b : Tk) : itemOrd.blt a b = tkLt a b := by cases a <;> cases b <;> rfl
theorem tksLt_py : ∀ a b : List Tk, PyProof.Rows.lexLt itemOrd a b = tksLt a b
  | [], [] => rfl
  | [], _ :: _ => rfl
  | _ :: _, [] => rfl
  | x :: r, y :: t => by
    show (itemOrd.blt x y || (!itemOrd.blt y x && PyProof.Rows.lexLt itemOrd r t)) = _
    rw [tkLt_py, tkLt_py, tksLt_py r t]; rfl
theorem le_py (a b : D) : PySem.W.dataLe false toPy a b = D.le a b := by
  rw [PySem.W.dataLe_eq]
  show (!PySem.W.dataLt (toPy b) (toPy a)) = _
  unfold PySem.W.dataLt D.le
  rw [toks_py, toks_py, tksLt_py]
mutual
theorem alike_py : ∀ a b : D, D.alike a b = true → PySem.W.alike (toPy a) (toPy b) = true
  | .tup xs, .tup ys, h => by
    show PySem.W.alike (.tuple (toPys xs)) (.tuple (toPys ys)) = true
    unfold PySem.W.alike; exact alike_pys xs ys h
  | .lst xs, .lst ys, h => by
    show PySem.W.alike (.list (toPys xs)) (.list (toPys ys)) = true
    unfold PySem.W.alike; exact alike_pys xs ys h
  | .non, b, h => by cases b <;> first | (unfold toPy PySem.W.alike; rfl) | cases h
  | .bl _, b, h => by cases b <;> first | (unfold toPy PySem.W.alike; rfl) | cases h
  | .int _, b, h => by cases b <;> first | (unfold toPy PySem.W.alike; rfl) | cases h
  | .str _, b, h => by cases b <;> first | (unfold toPy PySem.W.alike; rfl) | cases h
  | .lk _, b, h => by cases b <;> cases h
  | .dic _, b, h => by cases b <;> cases h
  | .ins _ _, b, h => by cases b <;> cases h
  | .fn _, b, h => by cases b <;> cases h
  | .tup _, .non, h => by cases h
theorem alike_pys : ∀ xs ys : List D, D.alikes xs ys = true → PySem.W.alikeAll (toPys xs) (toPys ys) = true
  | [], _, _ => by unfold toPys PySem.W.alikeAll; rfl
  | _ :: _, [], _ => by
    show PySem.W.alikeAll (toPy _ :: toPys _) [] = true
    unfold PySem.W.alikeAll; rfl
  | x :: xs, y :: ys, h => by
    have h : (D.alike x y && D.alikes xs ys) = true := h
    rw [Bool.and_eq_true] at h
    show PySem.W.alikeAll (toPy x :: toPys xs) (toPy y :: toPys ys) = true
    unfold PySem.W.alikeAll
    rw [alike_py x y h.1, alike_pys xs ys h.2]; rfl
end
def rSortD (K : PySem.W.Frag) : List V → Hp → VK → Prop := fun vs H Q => ∃ (a : Addr) (bs : List (V × D)), vs = [V.ref a] ∧ SqL K H a (bs.map (·.1)) ∧ (∀ b ∈ bs, Dp K H b.1 (toPy b.2) ∧ (toPy b.2).depth ≤ 60) ∧
  PySem.W.AllAlike (bs.map fun b => toPy b.2) ∧ PySem.W.Sortable (bs.map fun b => toPy b.2) ∧ ∀ p, H p = none → Q (.ref p) (upd H p (.lst ((bs.mergeSort fun x y => D.le x.2 y.2).map (·.1))))
theorem each_vals {bs : List (V × D)} : ∀ {us : List Value}, Vals (bs.map (·.1)) us → PySem.W.EachIs (fun u (b : V × D) => RelV b.1 u) us bs := by
  induction bs with
  | nil => intro us r; cases r; exact .nil
  | cons b bs ih =>
    intro us r
    cases r with
    | cons h t => exact .cons h (ih t)
theorem vals_each {bs : List (V × D)} : ∀ {us : List Value}, PySem.W.EachIs (fun u (b : V × D) => RelV b.1 u) us bs → Vals (bs.map (·.1)) us := by
  induction bs with
  | nil => intro us r; cases r; exact .nil
  | cons b bs ih =>
    intro us r
    cases r with
    | cons h t => exact .cons h (ih t)
section
variable {X : Cx}
theorem cr_sortD (hu : X.A.units + 64 < cLine) : CallR X (.builtin "sorted") (rSortD X.K) := by
  intro pins s σ H vs us Q I r h
  obtain ⟨a, bs, rfl, hs, hd, hal, hsr, q⟩ := h
  obtain ⟨its, rv, hl, hz⟩ := I.list hs
  obtain ⟨u, rfl, ru⟩ := vals1 r
  obtain rfl : u = Value.ref a := ru
  have e := each_vals rv
  have er : PySem.W.EachIs (fun u (b : V × D) => ∃ as, Reads s.heap u (toPy b.2) as) its bs := by
    have go : ∀ (bs : List (V × D)) (us : List Value), (∀ b ∈ bs, Dp X.K H b.1 (toPy b.2) ∧ (toPy b.2).depth ≤ 60) → PySem.W.EachIs (fun u (b : V × D) => RelV b.1 u) us bs → PySem.W.EachIs (fun u (b : V × D) => ∃ as, Reads s.heap u (toPy b.2) as) us bs := by
      intro bs
      induction bs with
      | nil => intro us _ r; cases r; exact .nil
      | cons b bs ih =>
        intro us hd r
        cases r with
        | cons h t => exact .cons (Dp.reads I _ _ _ (hd b List.mem_cons_self).1 h) (ih _ (fun b hb => hd b (List.mem_cons_of_mem _ hb)) t)
    exact go bs its hd e
  rw [List.length_map] at hz
  refine PySem.W.sorted_data (enc := fun b : V × D => toPy b.2) hl.isList e er hal hsr hz (fun b hb => ?_) fun out ho eo => ?_
  · have := (hd b hb).2
    omega
  · have e1 : PySem.W.dataLe false (fun b : V × D => toPy b.2) = fun x y => D.le x.2 y.2 := by
      funext x y
      exact le_py x.2 y.2
    rw [e1] at eo
    obtain ⟨n, hn⟩ := sortedAll_at s.heap its out.toArray
    refine ⟨.ref (s.heap.objs.size + 1), upd H (s.heap.objs.size + 1) (.lst ((bs.mergeSort fun x y => D.le x.2 y.2).map (·.1))), I.laid (t' := s.toks) (fun _ _ => sortedAll_old) (Nat.le_succ _) ⟨?_, out, n, vals_each eo, hn⟩, rfl, q _ (I.hok.fresh (Nat.le_succ _))⟩
    rw [List.length_map, List.length_mergeSort]; exact hz
def rSort1 (K : PySem.W.Frag) : List V → Hp → VK → Prop := fun vs H Q => ∃ (a : Addr) (xs : List V), vs = [V.ref a] ∧ SqL K H a xs ∧ xs.length < 2 ∧ ∀ p, H p = none → Q (.ref p) (upd H p (.lst xs))
theorem cr_sort1 : CallR X (.builtin "sorted") (rSort1 X.K) := by
  intro pins s σ H vs us Q I r h
  obtain ⟨a, xs, rfl, hs, h2, q⟩ := h
  obtain ⟨its, rv, hl, hz⟩ := I.list hs
  obtain ⟨u, rfl, ru⟩ := vals1 r
  obtain rfl : u = Value.ref a := ru
  refine Srt.sorted_any hl.isList (by rw [← rv.length]; exact hz) (fun h => absurd h (by rw [← rv.length]; omega)) fun out ho => ?_
  have e : out = its := by
    have hl2 := ho.length_eq
    rw [← rv.length] at hl2
    match out, its, ho, hl2 with
    | [], its, ho, _ => exact (List.Perm.eq_nil ho.symm).symm
    | [x], its, ho, _ => exact (List.perm_singleton.mp ho.symm).symm
    | _ :: _ :: _, _, _, hl2 => simp at hl2; omega
  subst e
  obtain ⟨n, hn⟩ := sortedAll_at s.heap out out.toArray
  exact ⟨.ref (s.heap.objs.size + 1), upd H (s.heap.objs.size + 1) (.lst xs), I.laid (t' := s.toks) (fun _ _ => sortedAll_old) (Nat.le_succ _) ⟨hz, out, n, rv, hn⟩, rfl, q _ (I.hok.fresh (Nat.le_succ _))⟩
theorem DRs.zip {K : PySem.W.Frag} {mg : Str → Option Value} {F : Hp} : ∀ {vs : List V} {xs : List D}, DRs K mg F vs xs → (vs.zip xs).map (·.1) = vs ∧ (vs.zip xs).map (·.2) = xs ∧ ∀ b ∈ vs.zip xs, DR K mg F b.1 b.2
  | _, _, .nil => ⟨rfl, rfl, fun _ h => nomatch h⟩
  | _, _, .cons h t => by
    obtain ⟨e1, e2, e3⟩ := DRs.zip t
    refine ⟨by rw [List.zip_cons_cons, List.map_cons, e1], by rw [List.zip_cons_cons, List.map_cons, e2], fun b hb => ?_⟩
    rw [List.zip_cons_cons] at hb
    rcases List.mem_cons.mp hb with rfl | hb
    · exact h
    · exact e3 b hb
theorem DRs.unzip {K : PySem.W.Frag} {mg : Str → Option Value} {F : Hp} : ∀ (l : List (V × D)), (∀ b ∈ l, DR K mg F b.1 b.2) → DRs K mg F (l.map (·.1)) (l.map (·.2))
  | [], _ => .nil
  | b :: l, h => .cons (h b List.mem_cons_self) (DRs.unzip l fun x hx => h x (List.mem_cons_of_mem _ hx))
theorem isTup1_py {d : D} (h : isTup1 d = true) : ∃ x r, toPy d = .tuple (x :: r) := by
  cases d <;> first | cases h | skip
  rename_i xs
  cases xs with
  | nil => cases h
  | cons x r => exact ⟨toPy x, toPys r, rfl⟩
theorem notTN_py {d : D} (h : notTN d = true) (h2 : D.eqok 60 d = true) : toPy d ≠ .none ∧ ∀ xs, toPy d ≠ .tuple xs := by
  cases d <;> first | exact ⟨fun e => (PyData.noConfusion e), fun _ e => (PyData.noConfusion e)⟩ | (cases h; done)
theorem eqoks_mem {n : Nat} : ∀ {xs : List D}, D.eqoks n xs = true → ∀ d ∈ xs, D.eqok n d = true
  | [], _, d, h => nomatch h
  | x :: xs, h, d, hd => by
    have h : (D.eqok n x && D.eqoks n xs) = true := h
    rw [Bool.and_eq_true] at h
    rcases List.mem_cons.mp hd with rfl | hd
    · exact h.1
    · exact eqoks_mem h.2 d hd
theorem bi_sorted (hu : X.A.units + 64 < cLine) (h : X.mg "sorted" = none) : HasBi X "sorted" sortedB := ⟨h, by decide, .inl ⟨"sorted", rfl, CallR.cases fun ds t e => by
  obtain ⟨d, rfl⟩ := one_of e rfl (fun a b r => by cases a <;> rfl)
  cases d <;> first | (cases e; done) | skip
  case lst xs =>
    have e : (if xs.length < 2 then some (OT.ml xs) else if sortOk xs = true ∧ xs.length ≤ sizeMax then some (OT.ml (xs.mergeSort D.le)) else none) = some t := e
    by_cases h2 : xs.length < 2
    · rw [if_pos h2] at e
      cases e
      refine ⟨_, cr_sort1, fun F H vs Q le p q => ?_⟩
      obtain ⟨v, rfl, p2⟩ := p.one
      obtain ⟨a, vs, rfl, h1, h4, h3⟩ := p2.items le
      obtain ⟨z1, z2, z3⟩ := h3.zip
      have e1 := congrArg List.length z1
      have e2 := congrArg List.length z2
      rw [List.length_map] at e1 e2
      exact ⟨a, vs, rfl, .inl (.inl h1), by omega, fun p hp => q.newL le hp h3 h4⟩
    rw [if_neg h2] at e
    by_cases hk : sortOk xs = true ∧ xs.length ≤ sizeMax
    · rw [if_pos hk] at e
      cases e
      obtain ⟨hk, _⟩ := hk
      simp only [sortOk, Bool.and_eq_true, Bool.or_eq_true, List.all_eq_true] at hk
      obtain ⟨⟨k1, k2⟩, k3⟩ := hk
      refine ⟨_, cr_sortD hu, fun F H vs Q le p q => ?_⟩
      obtain ⟨v, rfl, p2⟩ := p.one
      obtain ⟨a, vs, rfl, h1, h2, h3⟩ := p2.items le
      obtain ⟨z1, z2, z3⟩ := h3.zip
      have mem2 : ∀ b ∈ vs.zip xs, b.2 ∈ xs := fun b hb => by
        have : b.2 ∈ (vs.zip xs).map (·.2) := List.mem_map.mpr ⟨b, hb, rfl⟩
        rwa [z2] at this
      have e3 : (vs.zip xs).map (fun b => toPy b.2) = xs.map toPy := by
        conv => rhs; rw [← z2]
        rw [List.map_map]; rfl
      refine ⟨a, vs.zip xs, rfl, by rw [z1]; exact .inl (.inl h1), fun b hb => ?_, ?_, ?_, fun p hp => ?_⟩
      · obtain ⟨q1, _, q3⟩ := dp_of 60 b.2 b.1 (eqoks_mem k1 _ (mem2 b hb)) (DR.mono le (z3 b hb))
        exact ⟨q1, q3⟩
      · rw [e3]
        intro d hd d' hd'
        obtain ⟨x, hx, rfl⟩ := List.mem_map.mp hd
        obtain ⟨y, hy, rfl⟩ := List.mem_map.mp hd'
        exact alike_py x y (k2 x hx y hy)
      · rw [e3]
        rcases k3 with k3 | k3
        · refine .inl fun d hd => ?_
          obtain ⟨x, hx, rfl⟩ := List.mem_map.mp hd
          exact isTup1_py (k3 x hx)
        · refine .inr fun d hd => ?_
          obtain ⟨x, hx, rfl⟩ := List.mem_map.mp hd
          exact notTN_py (k3 x hx) (eqoks_mem k1 x hx)
      · have e4 : ((vs.zip xs).mergeSort fun x y => D.le x.2 y.2).map (·.2) = xs.mergeSort D.le := by
          conv => rhs; rw [← z2]
          exact List.map_mergeSort fun _ _ _ _ => rfl
        refine q.newL le hp ?_ ?_
        · rw [← e4]
          exact DRs.unzip _ fun b hb => z3 b ((List.mergeSort_perm _ _).mem_iff.mp hb)
        · rw [List.length_map, List.length_mergeSort]
          have : (vs.zip xs).length = vs.length := by
            conv => rhs; rw [← z1]
            rw [List.length_map]
          rw [this]; exact h2
    · rw [if_neg hk] at e; cases e⟩⟩
end
end Rx
end

section
/-! Rx, part 22: paths within owned things: reads, stores, appends. -/
namespace Rx
open PySem PySem.Spec PyProof.Rows L2
section
variable (K : PySem.W.Frag) (mg : Str → Option Value) (σ : L2.St) (H : Hp)
/-- one step within the heap -/
inductive StepV : V → Wy → V → Prop
  | c {a : Addr} {vs : List V} {i : Int} {k : Nat} {v : V} : (SqL K H a vs ∨ SqT K H a vs) → plc vs.length i = some k → vs[k]? = some v → StepV (.ref a) (.c i) v
  | v {a : Addr} {vs : List V} {j : Nat} {i : Int} {k : Nat} {v : V} : σ[j]? = some (some (.int i)) → (SqL K H a vs ∨ SqT K H a vs) → plc vs.length i = some k → vs[k]? = some v → StepV (.ref a) (.v j) v
  | f {a C dx : Addr} {fs : List (Str × V)} {cs : List Str} {c x : Str} {v : V} : H a = some (.ins C dx fs) → c ∈ cs → mg c = some (.ref C) → fs.lookup x = some v → StepV (.ref a) (.f cs x) v
inductive WalkV : V → List Wy → V → Prop
  | nil {v : V} : WalkV v [] v
  | cons {v v1 v2 : V} {s : Wy} {ss : List Wy} : StepV K mg σ H v s v1 → WalkV v1 ss v2 → WalkV v (s :: ss) v2
end
section
variable {K : PySem.W.Frag} {mg : Str → Option Value} {W : WX} {σ : L2.St} {H F H' F' H1 F1 : Hp} {fp fpe fpv : List Addr} {e : Ev}
theorem WalkV.last {v v2 : V} {s : Wy} : ∀ {ss : List Wy}, WalkV K mg σ H v (ss ++ [s]) v2 → ∃ v1, WalkV K mg σ H v ss v1 ∧ StepV K mg σ H v1 s v2 := fun {ss} => by
  induction ss generalizing v with
  | nil => intro h; cases h with | cons a b => cases b; exact ⟨_, .nil, a⟩
  | cons x r ih => intro h; cases h with | cons a b => obtain ⟨v1, h1, h2⟩ := ih b; exact ⟨v1, .cons a h1, h2⟩
/-- the names that hold numbers -/
def VarsOk (σ : L2.St) (e : Ev) : Prop := ∀ j i, e.at j = some (.fz (.int i)) → σ[j]? = some (some (.int i))
theorem SS.vars (ss : SS K mg H F σ e fp) : VarsOk σ e := fun j i h => by
  obtain ⟨v, g, h1, h2, _⟩ := ss.env.at h
  cases h2 with | fz d => cases d; exact h1
theorem DRs.len' : ∀ {vs : List V} {ds : List D}, DRs K mg F vs ds → vs.length = ds.length
  | _, _, .nil => rfl
  | _, _, .cons _ r => congrArg (· + 1) (DRs.len' r)
theorem OTRs.len : ∀ {vs : List V} {ts : List OT} {fp : List Addr}, OTRs K mg H F vs ts fp → vs.length = ts.length
  | _, _, _, .nil => rfl
  | _, _, _, .cons _ r _ => congrArg (· + 1) (OTRs.len r)
theorem DRs.getAt' : ∀ {vs : List V} {ds : List D} {k : Nat} {d : D}, DRs K mg F vs ds → ds[k]? = some d → ∃ v, vs[k]? = some v ∧ DR K mg F v d
  | _, _, _, _, .nil, h => by simp at h
  | _, _, 0, _, .cons o r, h => by simp at h; subst h; exact ⟨_, rfl, o⟩
  | _, _, n + 1, _, .cons o r, h => by
    obtain ⟨v, h1, h2⟩ := DRs.getAt' (k := n) r (by simpa using h)
    exact ⟨v, by simpa using h1, h2⟩
theorem getI_plc {α : Type} {xs : List α} {i : Int} {x : α} (h : getI xs i = some x) : ∃ k, plc xs.length i = some k ∧ xs[k]? = some x := by
  unfold getI at h
  cases hp : plc xs.length i with
  | none => rw [hp] at h; cases h
  | some k => rw [hp] at h; exact ⟨k, rfl, h⟩
/-- a frozen step -/
theorem DR.step {v : V} {d : D} {s : Wy} {u : OT} (le : Same F H) (hv : VarsOk σ e) (h : DR K mg F v d) (hc : s.child e (.fz d) = some u) : ∃ v1 d1, u = .fz d1 ∧ StepV K mg σ H v s v1 ∧ DR K mg F v1 d1 := by
  cases s with
  | c i =>
    cases d <;> first | (cases hc; done) | skip
    case lst ds =>
      have hc : (getI ds i).map OT.fz = some u := hc
      obtain ⟨d1, h1, rfl⟩ := Option.map_eq_some_iff.mp hc
      obtain ⟨k, h2, h3⟩ := getI_plc h1
      cases h with
      | lst ha hz r =>
        obtain ⟨v1, h4, h5⟩ := DRs.getAt' r h3
        exact ⟨v1, d1, rfl, .c (.inl (SqL.of (le _ _ ha))) (by rw [r.len']; exact h2) h4, h5⟩
    case tup ds =>
      have hc : (getI ds i).map OT.fz = some u := hc
      obtain ⟨d1, h1, rfl⟩ := Option.map_eq_some_iff.mp hc
      obtain ⟨k, h2, h3⟩ := getI_plc h1
      cases h with
      | tup ha hz r =>
        obtain ⟨v1, h4, h5⟩ := DRs.getAt' r h3
        exact ⟨v1, d1, rfl, .c (.inr (Same.seqT le ha)) (by rw [r.len']; exact h2) h4, h5⟩
  | v j =>
    cases hj : e.at j with
    | none => simp [Wy.child, hj] at hc
    | some t =>
      cases t <;> first | (simp [Wy.child, hj] at hc; done) | skip
      rename_i dj
      cases dj <;> first | (simp [Wy.child, hj] at hc; done) | skip
      rename_i i
      cases d <;> first | (simp [Wy.child, hj] at hc; done) | skip
      case lst ds =>
        have hc : (getI ds i).map OT.fz = some u := by simpa [Wy.child, hj] using hc
        obtain ⟨d1, h1, rfl⟩ := Option.map_eq_some_iff.mp hc
        obtain ⟨k, h2, h3⟩ := getI_plc h1
        cases h with
        | lst ha hz r =>
          obtain ⟨v1, h4, h5⟩ := DRs.getAt' r h3
          exact ⟨v1, d1, rfl, .v (hv _ _ hj) (.inl (SqL.of (le _ _ ha))) (by rw [r.len']; exact h2) h4, h5⟩
      case tup ds =>
        have hc : (getI ds i).map OT.fz = some u := by simpa [Wy.child, hj] using hc
        obtain ⟨d1, h1, rfl⟩ := Option.map_eq_some_iff.mp hc
        obtain ⟨k, h2, h3⟩ := getI_plc h1
        cases h with
        | tup ha hz r =>
          obtain ⟨v1, h4, h5⟩ := DRs.getAt' r h3
          exact ⟨v1, d1, rfl, .v (hv _ _ hj) (.inr (Same.seqT le ha)) (by rw [r.len']; exact h2) h4, h5⟩
  | f cs x =>
    cases d <;> first | (cases hc; done) | skip
    case ins c fs =>
      have hc : (if c ∈ cs then (fs.lookup x).map OT.fz else none) = some u := hc
      by_cases hm : c ∈ cs
      · rw [if_pos hm] at hc
        obtain ⟨d1, h1, rfl⟩ := Option.map_eq_some_iff.mp hc
        cases h with
        | ins ha m r =>
          obtain ⟨v1, h4, h5⟩ := DRf.lookup r h1
          exact ⟨v1, d1, rfl, .f (le _ _ ha) hm m h4, h5⟩
      · rw [if_neg hm] at hc; cases hc
theorem DR.walk (le : Same F H) (hv : VarsOk σ e) : ∀ {ss : List Wy} {v : V} {d : D} {u : OT}, DR K mg F v d → nav e (.fz d) ss = some u → ∃ v1 d1, u = .fz d1 ∧ WalkV K mg σ H v ss v1 ∧ DR K mg F v1 d1
  | [], v, d, u, h, hn => by cases hn; exact ⟨v, d, rfl, .nil, h⟩
  | s :: ss, v, d, u, h, hn => by
    have hn : ((s.child e (.fz d)).bind fun u => nav e u ss) = some u := hn
    cases hc : s.child e (.fz d) with
    | none => rw [hc] at hn; cases hn
    | some u1 =>
      rw [hc] at hn
      obtain ⟨v1, d1, rfl, s1, r1⟩ := h.step le hv hc
      obtain ⟨v2, d2, rfl, s2, r2⟩ := DR.walk le hv r1 hn
      exact ⟨v2, d2, rfl, .cons s1 s2, r2⟩
/-- a child of an owned list; what may come in its place -/
theorem OTRs.child : ∀ {vs : List V} {ts : List OT} {fp : List Addr} {n : Nat} {t : OT}, OTRs K mg H F vs ts fp → ts[n]? = some t → ∃ v g, vs[n]? = some v ∧ OTR K mg H F v t g ∧ (∀ a ∈ g, a ∈ fp) ∧
    ∀ (H' F' : Hp) (t' : OT) (g' : List Addr), Same F F' → (∀ a ∈ fp, a ∉ g → ∀ o, H a = some o → H' a = some o) → OTR K mg H' F' v t' g' → (∀ a ∈ g', a ∈ g ∨ a ∉ fp) → ∃ fp', OTRs K mg H' F' vs (ts.set n t') fp' ∧ ∀ a ∈ fp', a ∈ g' ∨ (a ∈ fp ∧ a ∉ g)
  | _, _, _, _, _, .nil, h => by simp at h
  | _, _, _, 0, t, .cons (v := v) (fp := g) (fps := gs) o r n, h => by
    simp at h; subst h
    refine ⟨v, g, rfl, o, fun a ha => List.mem_append_left _ ha, fun H' F' t' g' s k o' d => ⟨g' ++ gs, .cons o' (r.keep s fun a ha => k a (List.mem_append_right _ ha) fun z => n a z ha) (fun a ha z => ?_), fun a ha => ?_⟩⟩
    · rcases d a ha with q | q
      · exact n a q z
      · exact q (List.mem_append_right _ z)
    · rcases List.mem_append.mp ha with q | q
      · exact .inl q
      · exact .inr ⟨List.mem_append_right _ q, fun z => n a z q⟩
  | _, _, _, m + 1, t, .cons (fp := g0) (fps := gs) o r n, h => by
    obtain ⟨v, g, h1, h2, h3, h4⟩ := OTRs.child (n := m) r (by simpa using h)
    refine ⟨v, g, by simpa using h1, h2, fun a ha => List.mem_append_right _ (h3 a ha), fun H' F' t' g' s k o' d => ?_⟩
    obtain ⟨fp', q1, q2⟩ := h4 H' F' t' g' s (fun a ha hn => k a (List.mem_append_right _ ha) hn) o' (fun a ha => (d a ha).imp id fun z y => z (List.mem_append_right _ y))
    refine ⟨g0 ++ fp', .cons (o.keep s fun a ha => k a (List.mem_append_left _ ha) fun z => n a ha (h3 a z)) q1 (fun a ha z => ?_), fun a ha => ?_⟩
    · rcases q2 a z with y | ⟨y, _⟩
      · rcases d a y with w | w
        · exact n a ha (h3 a w)
        · exact w (List.mem_append_left _ ha)
      · exact n a ha y
    · rcases List.mem_append.mp ha with q | q
      · exact .inr ⟨List.mem_append_left _ q, fun z => n a q (h3 a z)⟩
      · exact (q2 a q).imp id fun ⟨y, z⟩ => ⟨List.mem_append_right _ y, z⟩
theorem OTRf.child : ∀ {vs : List (Str × V)} {ts : List (Str × OT)} {fp : List Addr} {x : Str} {t : OT}, OTRf K mg H F vs ts fp → ts.lookup x = some t → ∃ v g, vs.lookup x = some v ∧ OTR K mg H F v t g ∧ (∀ a ∈ g, a ∈ fp) ∧
    ∀ (H' F' : Hp) (t' : OT) (g' : List Addr), Same F F' → (∀ a ∈ fp, a ∉ g → ∀ o, H a = some o → H' a = some o) → OTR K mg H' F' v t' g' → (∀ a ∈ g', a ∈ g ∨ a ∉ fp) → ∃ fp', OTRf K mg H' F' vs (putA x t' ts) fp' ∧ ∀ a ∈ fp', a ∈ g' ∨ (a ∈ fp ∧ a ∉ g)
  | _, _, _, _, _, .nil, h => by cases h
  | _, _, _, x, t, .cons (f := f) (v := v) (fp := g) (fps := gs) o r n, h => by
    by_cases e : f = x
    · subst e
      rw [List.lookup_cons, beq_self_eq_true] at h
      cases h
      refine ⟨v, g, by rw [List.lookup_cons, beq_self_eq_true], o, fun a ha => List.mem_append_left _ ha, fun H' F' t' g' s k o' d => ⟨g' ++ gs, ?_, fun a ha => ?_⟩⟩
      · simp only [putA, if_pos rfl]
        exact .cons o' (r.keep s fun a ha => k a (List.mem_append_right _ ha) fun z => n a z ha) (fun a ha z => (d a ha).elim (fun q => n a q z) fun q => q (List.mem_append_right _ z))
      · rcases List.mem_append.mp ha with q | q
        · exact .inl q
        · exact .inr ⟨List.mem_append_right _ q, fun z => n a z q⟩
    · have e2 : (x == f) = false := by simpa using fun z : x = f => e z.symm
      rw [List.lookup_cons, e2] at h
      obtain ⟨v1, g1, h1, h2, h3, h4⟩ := OTRf.child r h
      refine ⟨v1, g1, by rw [List.lookup_cons, e2]; exact h1, h2, fun a ha => List.mem_append_right _ (h3 a ha), fun H' F' t' g' s k o' d => ?_⟩
      obtain ⟨fp', q1, q2⟩ := h4 H' F' t' g' s (fun a ha hn => k a (List.mem_append_right _ ha) hn) o' (fun a ha => (d a ha).imp id fun z y => z (List.mem_append_right _ y))
      refine ⟨g ++ fp', ?_, fun a ha => ?_⟩
      · simp only [putA, if_neg e]
        refine .cons (o.keep s fun a ha => k a (List.mem_append_left _ ha) fun z => n a ha (h3 a z)) q1 (fun a ha z => ?_)
        rcases q2 a z with y | ⟨y, _⟩
        · rcases d a y with w | w
          · exact n a ha (h3 a w)
          · exact w (List.mem_append_left _ ha)
        · exact n a ha y
      · rcases List.mem_append.mp ha with q | q
        · exact .inr ⟨List.mem_append_left _ q, fun z => n a q (h3 a z)⟩
        · exact (q2 a q).imp id fun ⟨y, z⟩ => ⟨List.mem_append_right _ y, z⟩
/-- what stands at a path; what may come in its place -/
def Zip (K : PySem.W.Frag) (mg : Str → Option Value) (σ : L2.St) (H F : Hp) (v : V) (fp : List Addr) (e : Ev) (t : OT) (ss : List Wy) (u : OT) (v' : V) (g : List Addr) : Prop :=
  WalkV K mg σ H v ss v' ∧ OTR K mg H F v' u g ∧ (∀ a ∈ g, a ∈ fp) ∧
    ∀ (H' F' : Hp) (u' t' : OT) (g' : List Addr) (f : OT → Option OT), f u = some u' → setAt e f t ss = some t' → Same F F' → (∀ a ∈ fp, a ∉ g → ∀ o, H a = some o → H' a = some o) → OTR K mg H' F' v' u' g' → (∀ a ∈ g', a ∈ g ∨ a ∉ fp) →
      ∃ fp', OTR K mg H' F' v t' fp' ∧ ∀ a ∈ fp', a ∈ g' ∨ (a ∈ fp ∧ a ∉ g)
theorem setAt_fz {f : OT → Option OT} {d : D} {s : Wy} {ss : List Wy} : setAt e f (.fz d) (s :: ss) = none := by cases s <;> rfl
theorem setAt_nil {f : OT → Option OT} {t : OT} : setAt e f t [] = f t := by cases t <;> rfl
/-- within an owned list -/
theorem zip_list {a : Addr} {vs : List V} {ts : List OT} {fp0 : List Addr} {n : Nat} {c : OT} {s : Wy} {ss : List Wy} {u : OT} (hl : H a = some (.lst vs)) (hz : vs.length ≤ sizeLine) (r : OTRs K mg H F vs ts fp0) (na : a ∉ fp0) (hc : ts[n]? = some c)
    (hst : ∀ v1, vs[n]? = some v1 → StepV K mg σ H (.ref a) s v1) (hset : ∀ f, setAt e f (.lst ts) (s :: ss) = (setAt e f c ss).map fun c' => .lst (ts.set n c'))
    (ih : ∀ {v : V} {fp : List Addr}, OTR K mg H F v c fp → ∃ v' g, Zip K mg σ H F v fp e c ss u v' g) : ∃ v' g, Zip K mg σ H F (.ref a) (a :: fp0) e (.lst ts) (s :: ss) u v' g := by
  obtain ⟨v1, g1, h1, h2, h3, h4⟩ := r.child hc
  obtain ⟨v', g, w1, w2, w3, w4⟩ := ih h2
  refine ⟨v', g, .cons (hst v1 h1) w1, w2, fun b hb => List.mem_cons_of_mem _ (h3 b (w3 b hb)), fun H' F' u' t' g' f hf hs sm k o' d => ?_⟩
  rw [hset] at hs
  obtain ⟨c', hc', rfl⟩ := Option.map_eq_some_iff.mp hs
  obtain ⟨fp1, q1, q2⟩ := w4 H' F' u' c' g' f hf hc' sm (fun b hb hn => k b (List.mem_cons_of_mem _ (h3 b hb)) hn) o' (fun b hb => (d b hb).imp id fun z y => z (List.mem_cons_of_mem _ (h3 b y)))
  obtain ⟨fp2, p1, p2⟩ := h4 H' F' c' fp1 sm (fun b hb hn => k b (List.mem_cons_of_mem _ hb) fun z => hn (w3 b z)) q1 (fun b hb => by
    rcases q2 b hb with y | ⟨y, _⟩
    · rcases d b y with z | z
      · exact .inl (w3 b z)
      · exact .inr fun x => z (List.mem_cons_of_mem _ x)
    · exact .inl y)
  have agn : a ∉ g := fun z => na (h3 a (w3 a z))
  have afp2 : a ∉ fp2 := fun z => by
    rcases p2 a z with y | ⟨y, _⟩
    · rcases q2 a y with x | ⟨x, _⟩
      · rcases d a x with m | m
        · exact agn m
        · exact m List.mem_cons_self
      · exact na (h3 a x)
    · exact na y
  refine ⟨a :: fp2, .lst (k a List.mem_cons_self agn _ hl) hz p1 afp2, fun b hb => ?_⟩
  rcases List.mem_cons.mp hb with rfl | hb
  · exact .inr ⟨List.mem_cons_self, agn⟩
  · rcases p2 b hb with y | ⟨y, z⟩
    · rcases q2 b y with x | ⟨x, m⟩
      · exact .inl x
      · exact .inr ⟨List.mem_cons_of_mem _ (h3 b x), m⟩
    · exact .inr ⟨List.mem_cons_of_mem _ y, fun x => z (w3 b x)⟩
theorem OTR.zip (le : Same F H) (hv : VarsOk σ e) : ∀ {ss : List Wy} {v : V} {t u : OT} {fp : List Addr}, OTR K mg H F v t fp → nav e t ss = some u → ∃ v' g, Zip K mg σ H F v fp e t ss u v' g
  | [], v, t, u, fp, o, hn => by
    cases hn
    refine ⟨v, fp, .nil, o, fun _ h => h, fun H' F' u' t' g' f hf hs _ _ o' _ => ⟨g', ?_, fun a ha => .inl ha⟩⟩
    rw [setAt_nil, hf] at hs
    cases hs; exact o'
  | s :: ss, v, t, u, fp, o, hn => by
    have hn0 : ((s.child e t).bind fun u => nav e u ss) = some u := hn
    clear hn
    cases hc : s.child e t with
    | none => rw [hc] at hn0; cases hn0
    | some c =>
      rw [hc] at hn0
      have hnn : nav e c ss = some u := hn0
      clear hn0
      cases o with
      | fz d =>
        obtain ⟨v1, d1, rfl, s1, r1⟩ := d.step le hv hc
        obtain ⟨v2, d2, rfl, s2, r2⟩ := DR.walk le hv r1 hnn
        refine ⟨v2, [], .cons s1 s2, .fz r2, fun _ h => (nomatch h), fun H' F' u' t' g' f hf hs => ?_⟩
        rw [setAt_fz] at hs; cases hs
      | dK ha r =>
        cases s with
        | c i => cases hc
        | v j => simp only [Wy.child] at hc; split at hc <;> cases hc
        | f cs x => cases hc
      | lst ha hz r n =>
        rename_i a vs ts fp0
        cases s with
        | c i =>
          have hc : getI ts i = some c := hc
          obtain ⟨k, h2, h3⟩ := getI_plc hc
          refine zip_list ha hz r n h3 (fun v1 h1 => .c (.inl (SqL.of ha)) (by rw [r.len]; exact h2) h1) (fun f => ?_) (fun o => OTR.zip le hv o hnn)
          show ((plc ts.length i).bind fun n => (ts[n]?).bind fun c => (setAt e f c ss).map fun c' => OT.lst (ts.set n c')) = _
          rw [h2, Option.bind_some, h3, Option.bind_some]
        | v j =>
          cases hj : e.at j with
          | none => simp [Wy.child, hj] at hc
          | some t =>
            cases t <;> first | (simp [Wy.child, hj] at hc; done) | skip
            rename_i dj
            cases dj <;> first | (simp [Wy.child, hj] at hc; done) | skip
            rename_i i
            have hc : getI ts i = some c := by simpa [Wy.child, hj] using hc
            obtain ⟨k, h2, h3⟩ := getI_plc hc
            refine zip_list ha hz r n h3 (fun v1 h1 => .v (hv _ _ hj) (.inl (SqL.of ha)) (by rw [r.len]; exact h2) h1) (fun f => ?_) (fun o => OTR.zip le hv o hnn)
            show (match e.at j with
              | some (.fz (.int i)) => (plc ts.length i).bind fun n => (ts[n]?).bind fun c => (setAt e f c ss).map fun c' => OT.lst (ts.set n c')
              | _ => none) = _
            rw [hj]
            show ((plc ts.length i).bind fun n => (ts[n]?).bind fun c => (setAt e f c ss).map fun c' => OT.lst (ts.set n c')) = _
            rw [h2, Option.bind_some, h3, Option.bind_some]
        | f cs x => cases hc
      | ins ha m r n =>
        rename_i a C dx c0 fs ts fp0
        cases s with
        | c i => cases hc
        | v j => simp only [Wy.child] at hc; split at hc <;> cases hc
        | f cs x =>
          have hc : (if c0 ∈ cs then ts.lookup x else none) = some c := hc
          by_cases hm : c0 ∈ cs
          · rw [if_pos hm] at hc
            obtain ⟨v1, g1, h1, h2, h3, h4⟩ := r.child hc
            obtain ⟨v', g, w1, w2, w3, w4⟩ := OTR.zip le hv h2 hnn
            refine ⟨v', g, .cons (.f ha hm m h1) w1, w2, fun b hb => List.mem_cons_of_mem _ (h3 b (w3 b hb)), fun H' F' u' t' g' f hf hs sm k o' d => ?_⟩
            have hs : (if c0 ∈ cs then (ts.lookup x).bind fun c1 => (setAt e f c1 ss).map fun c' => OT.ins c0 (putA x c' ts) else none) = some t' := hs
            rw [if_pos hm, hc, Option.bind_some] at hs
            obtain ⟨c', hc', rfl⟩ := Option.map_eq_some_iff.mp hs
            obtain ⟨fp1, q1, q2⟩ := w4 H' F' u' c' g' f hf hc' sm (fun b hb hn => k b (List.mem_cons_of_mem _ (h3 b hb)) hn) o' (fun b hb => (d b hb).imp id fun z y => z (List.mem_cons_of_mem _ (h3 b y)))
            obtain ⟨fp2, p1, p2⟩ := h4 H' F' c' fp1 sm (fun b hb hn => k b (List.mem_cons_of_mem _ hb) fun z => hn (w3 b z)) q1 (fun b hb => by
              rcases q2 b hb with y | ⟨y, _⟩
              · rcases d b y with z | z
                · exact .inl (w3 b z)
                · exact .inr fun x => z (List.mem_cons_of_mem _ x)
              · exact .inl y)
            have agn : a ∉ g := fun z => n (h3 a (w3 a z))
            have afp2 : a ∉ fp2 := fun z => by
              rcases p2 a z with y | ⟨y, _⟩
              · rcases q2 a y with x | ⟨x, _⟩
                · rcases d a x with m | m
                  · exact agn m
                  · exact m List.mem_cons_self
                · exact n (h3 a x)
              · exact n y
            refine ⟨a :: fp2, .ins (k a List.mem_cons_self agn _ ha) m p1 afp2, fun b hb => ?_⟩
            rcases List.mem_cons.mp hb with rfl | hb
            · exact .inr ⟨List.mem_cons_self, agn⟩
            · rcases p2 b hb with y | ⟨y, z⟩
              · rcases q2 b y with x | ⟨x, m⟩
                · exact .inl x
                · exact .inr ⟨List.mem_cons_of_mem _ (h3 b x), m⟩
              · exact .inr ⟨List.mem_cons_of_mem _ y, fun x => z (w3 b x)⟩
          · rw [if_neg hm] at hc; cases hc
termination_by ss => ss.length
end
end Rx
end

section
/-! Rx, part 23: paths: read, their length, appended to, an item set; a number added to an attribute; methods of own classes. -/
namespace Rx
open PySem PySem.Spec PyProof.Rows L2
section
variable {K : PySem.W.Frag} {mg : Str → Option Value} {W : WX} {σ : L2.St} {H F H1 F1 H2 : Hp} {fp fpe fpv : List Addr} {e e1 : Ev}
theorem setAt_nav : ∀ {ss : List Wy} {t t' : OT} {f : OT → Option OT}, setAt e f t ss = some t' → ∃ u u', nav e t ss = some u ∧ f u = some u'
  | [], t, t', f, h => by rw [setAt_nil] at h; exact ⟨t, t', rfl, h⟩
  | s :: ss, t, t', f, h => by
    have list : ∀ {ts : List OT} {i : Int}, ((plc ts.length i).bind fun n => (ts[n]?).bind fun c => (setAt e f c ss).map fun c' => OT.lst (ts.set n c')) = some t' → ∃ c, getI ts i = some c ∧ ∃ u u', nav e c ss = some u ∧ f u = some u' := fun {ts i} h => by
      obtain ⟨n, h1, h⟩ := Option.bind_eq_some_iff.mp h
      obtain ⟨c, h2, h⟩ := Option.bind_eq_some_iff.mp h
      obtain ⟨c', h3, _⟩ := Option.map_eq_some_iff.mp h
      exact ⟨c, by unfold getI; rw [h1]; exact h2, setAt_nav h3⟩
    cases s with
    | c i =>
      cases t <;> first | (cases h; done) | skip
      obtain ⟨c, h1, u, u', h2, h3⟩ := list h
      exact ⟨u, u', by show ((getI _ i).bind fun u => nav e u ss) = _; rw [h1]; exact h2, h3⟩
    | v j =>
      cases t <;> first | (cases h; done) | skip
      rename_i ts
      cases hj : e.at j with
      | none => simp [hj] at h
      | some tj =>
        cases tj <;> first | (simp [hj] at h; done) | skip
        rename_i dj
        cases dj <;> first | (simp [hj] at h; done) | skip
        rename_i i
        have h : ((plc ts.length i).bind fun n => (ts[n]?).bind fun c => (setAt e f c ss).map fun c' => OT.lst (ts.set n c')) = some t' := by
          have h : (match e.at j with
            | some (.fz (.int i)) => (plc ts.length i).bind fun n => (ts[n]?).bind fun c => (setAt e f c ss).map fun c' => OT.lst (ts.set n c')
            | _ => none) = some t' := h
          rw [hj] at h; exact h
        obtain ⟨c, h1, u, u', h2, h3⟩ := list h
        refine ⟨u, u', ?_, h3⟩
        have : Wy.child e (.lst ts) (.v j) = getI ts i := by simp only [Wy.child, hj]
        show ((Wy.child e (.lst ts) (.v j)).bind fun u => nav e u ss) = _
        rw [this, h1]; exact h2
    | f cs x =>
      cases t <;> first | (cases h; done) | skip
      rename_i c fs
      have h : (if c ∈ cs then (fs.lookup x).bind fun c1 => (setAt e f c1 ss).map fun c' => OT.ins c (putA x c' fs) else none) = some t' := h
      by_cases hm : c ∈ cs
      · rw [if_pos hm] at h
        obtain ⟨c1, h1, h⟩ := Option.bind_eq_some_iff.mp h
        obtain ⟨c', h2, _⟩ := Option.map_eq_some_iff.mp h
        obtain ⟨u, u', h3, h4⟩ := setAt_nav h2
        refine ⟨u, u', ?_, h4⟩
        show ((if c ∈ cs then fs.lookup x else none).bind fun u => nav e u ss) = _
        rw [if_pos hm, h1]; exact h3
      · rw [if_neg hm] at h; cases h
theorem Stp.wrs {L g : List Addr} (hs : ∀ a ∈ g, a ∈ L) (h : ∀ b, b ∉ g → ∀ o, H b = some o → H2 b = some o) : Stp H F L H2 F L :=
  ⟨fun _ _ e => e, fun a u e n => h a (fun z => n (hs a z)) u e, fun a u e => .inl (by rw [e]; simp), fun _ q => .inl q⟩
theorem put_path {j : Nat} {t0 t' u u' : OT} {v0 v' : V} {g0 g g' : List Addr} {ss : List Wy} {f : OT → Option OT} (z : Zip K mg σ H F v0 g0 e t0 ss u v' g) (le : Same F1 H1) (fF : Same F F1) (kA : ∀ a ∈ g0, ∀ o, H a = some o → H1 a = some o) (kB : ∀ a ∈ g0, F1 a = none)
    (env : EvR K mg H1 F1 σ e1 fpe) (oe : ∀ a ∈ fpe, F1 a = none) (ov : ∀ a ∈ fpv, F1 a = none) (d1 : ∀ a ∈ g0, a ∉ fpv ++ fpe) (d2 : ∀ a ∈ fpv, a ∉ fpe) (k1 : σ[j]? = some (some v0)) (hH2 : ∀ b, b ∉ g → ∀ o, H1 b = some o → H2 b = some o)
    (child : OTR K mg H2 F1 v' u' g') (hg' : ∀ b ∈ g', b ∈ g ∨ b ∈ fpv) (hf : f u = some u') (hset : setAt e f t0 ss = some t') : ∃ fp2, SS K mg H2 F1 σ (e1.set j (some t')) fp2 ∧ ∀ b ∈ fp2, b ∈ g0 ∨ b ∈ fpv ∨ b ∈ fpe := by
  obtain ⟨w1, w2, w3, w4⟩ := z
  obtain ⟨fp', q1, q2⟩ := w4 H2 F1 u' t' g' f hf hset fF (fun b hb hn o h => hH2 b hn o (kA b hb o h)) child fun b hb => (hg' b hb).imp id fun z y => d1 b y (List.mem_append_left _ z)
  have sub : ∀ b ∈ fp', b ∈ g0 ∨ b ∈ fpv := fun b hb => by
    rcases q2 b hb with y | ⟨y, _⟩
    · exact (hg' b y).imp (w3 b) id
    · exact .inl y
  have ge : ∀ b ∈ fpe, b ∉ g := fun b hb z => d1 b (w3 b z) (List.mem_append_right _ hb)
  obtain ⟨fp2, p1, p2⟩ := (env.keep (H' := H2) (Same.refl _) fun b hb o h => hH2 b (ge b hb) o h).put k1 q1 fun b hb z => by
    rcases sub b hb with y | y
    · exact d1 b y (List.mem_append_right _ z)
    · exact d2 b y z
  have sub2 : ∀ b ∈ fp2, b ∈ g0 ∨ b ∈ fpv ∨ b ∈ fpe := fun b hb => by
    rcases p2 b hb with y | y
    · exact (sub b y).imp id .inl
    · exact .inr (.inr y)
  refine ⟨fp2, ⟨fun b o h => hH2 b (fun z => ?_) o (le b o h), p1, fun b hb => ?_⟩, sub2⟩
  · rw [kB b (w3 b z)] at h; cases h
  · rcases sub2 b hb with y | y | y
    · exact kB b y
    · exact ov b y
    · exact oe b y
theorem atI_plc {α : Type} {xs : List α} {i : Int} {k : Nat} {v : α} (hp : plc xs.length i = some k) (hv : xs[k]? = some v) : atI xs i = some v := by
  unfold atI; rw [(plc_ixN hp).1]; exact hv
end
section
variable {X : Cx} {W : WX} {k j : Nat} {P : Nat → Bool} {pos p p2 p3 apos cpos : Pos} {a b c e o value : Expr} {es : List Expr} {ss ss' : List Wy} {x : IE} {xs : List IE} {ta : TE} {t : TA}
def tPath (K : PySem.W.Frag) (mg : Str → Option Value) (j : Nat) (ss : List Wy) : TE := fun σ H Q => ∃ v v', σ[j]? = some (some v) ∧ WalkV K mg σ H v ss v' ∧ Q v' H
abbrev JP (X : Cx) (j : Nat) (ss : List Wy) (e : Expr) : Prop := PE X e (tPath X.K X.mg j ss)
theorem p_nil (h : PE X e (tVar j)) : JP X j [] e := PE.imp h fun σ H Q ⟨v, v', h1, h2, q⟩ => by cases h2; exact ⟨v, h1, q⟩
theorem ix_both : IxR X (fun x y H Q => rIxL X.K x y H Q ∨ rIxT X.K x y H Q) := fun value slice pins s σ H x y v u Q I rx ry h hs =>
  h.elim (fun h => ix_list value slice pins s σ H x y v u Q I rx ry h hs) fun h => ix_tup value slice pins s σ H x y v u Q I rx ry h hs
theorem p_c {i : Int} {n : Nat} (h : JP X j ss a) (he : ss' = ss ++ [.c i] := by rfl) (hs : PlainIx (.Constant (.int i) n p) := by exact fun _ _ => rfl) : JP X j ss' (.Subscript a (.Constant (.int i) n p) pos) := PE.imp (pe_ix ix_both h pe_int hs) fun σ H Q ⟨v, v', h1, h2, q⟩ => by
  subst he
  obtain ⟨v1, w1, s1⟩ := h2.last
  refine ⟨v, v1, h1, w1, ?_⟩
  cases s1 with
  | c hq hp hv => exact hq.elim (fun hq => .inl ⟨_, _, i, _, rfl, rfl, hq, atI_plc hp hv, q⟩) fun hq => .inr ⟨_, _, i, _, rfl, rfl, hq, atI_plc hp hv, q⟩
theorem p_v {i : Nat} {e2 : Expr} (h : JP X j ss a) (hi : PE X e2 (tVar i)) (he : ss' = ss ++ [.v i] := by rfl) (hs : PlainIx e2 := by exact fun _ _ => rfl) : JP X j ss' (.Subscript a e2 pos) := PE.imp (pe_ix ix_both h hi hs) fun σ H Q ⟨v, v', h1, h2, q⟩ => by
  subst he
  obtain ⟨v1, w1, s1⟩ := h2.last
  refine ⟨v, v1, h1, w1, ?_⟩
  cases s1 with
  | v hx hq hp hv => exact ⟨_, hx, hq.elim (fun hq => .inl ⟨_, _, _, _, rfl, rfl, hq, atI_plc hp hv, q⟩) fun hq => .inr ⟨_, _, _, _, rfl, rfl, hq, atI_plc hp hv, q⟩⟩
theorem p_f {cs : List Str} {f : Str} (hc : ∀ c ∈ cs, HasC X.K X.mg c [f]) (h : JP X j ss a) (he : ss' = ss ++ [.f cs f] := by rfl) (hb : attributeBase a f X.env (eval a X.env) = eval a X.env := by rfl) : JP X j ss' (.Attribute a f pos) := PE.imp (pe_fld h hb) fun σ H Q ⟨v, v', h1, h2, q⟩ => by
  subst he
  obtain ⟨v1, w1, s1⟩ := h2.last
  refine ⟨v, v1, h1, w1, ?_⟩
  cases s1 with
  | f ha hm hmg hv =>
    obtain ⟨C, hC, cl, no⟩ := (hc _ hm).ex
    have hC2 := hC.symm.trans hmg
    cases hC2
    exact ⟨_, _, _, _, _, rfl, ha, cl, no f (List.mem_singleton.mpr rfl), hv, q⟩
/-- data at a path -/
theorem e_pth (h : JP X j ss e) : JE X W (.pth j ss) e := by
  refine PE.imp h fun σ H Q q => ?_
  obtain ⟨F, en, fp, s, q⟩ := q
  have q : WP X.K X.mg W σ H F fp ((M.get j en).bind fun t e1 => (match nav e1 t ss with
    | some (.fz d) => .ok (.fz d) e1
    | _ => .bad)) (FinV X.K X.mg H F fp σ Q) := q
  cases hj : en.at j with
  | none => simp only [M.get, hj] at q; exact q.elim
  | some t =>
    simp only [M.get, hj, R.bind] at q
    cases hn : nav en t ss with
    | none => rw [hn] at q; exact q.elim
    | some u =>
      rw [hn] at q
      cases u <;> first | exact q.elim | skip
      obtain ⟨v, g, rest, h1, h2, h3, h4, h5⟩ := s.env.take hj
      obtain ⟨v', g', w1, w2, w3, w4⟩ := h2.zip s.le s.vars hn
      cases w2 with
      | fz d => exact ⟨v, v', h1, w1, q v' H F fp [] ⟨Stp.refl, s, .fz d, nm, nm⟩⟩
/-- len of a list at a path -/
theorem e_lnp (hm : X.mg "len" = none) (h : JP X j ss e) (hg : Gl X "len" := by rfl) (he : starEach [e] X.env = (false, eval e X.env) :: starEach [] X.env := by rfl) (hpl : (backTo pos (starEach [] X.env)).any (·.1) = false := by rfl) : JE X W (.lnp j ss) (.Call (.Name "len" p) [e] [] pos) := by
  refine PE.imp (pe_callB call_len_seq hg hm (by rfl) (pa_cons h pa_nil he) (by decide) (by decide) he hpl) fun σ H Q q => ?_
  obtain ⟨F, en, fp, s, q⟩ := q
  have q : WP X.K X.mg W σ H F fp ((M.get j en).bind fun t e1 => (match nav e1 t ss with
    | some (.lst ts) => .ok (.fz (intD ts.length)) e1
    | _ => .bad)) (FinV X.K X.mg H F fp σ Q) := q
  cases hj : en.at j with
  | none => simp only [M.get, hj] at q; exact q.elim
  | some t =>
    simp only [M.get, hj, R.bind] at q
    cases hn : nav en t ss with
    | none => rw [hn] at q; exact q.elim
    | some u =>
      rw [hn] at q
      cases u <;> first | exact q.elim | skip
      obtain ⟨v, g, rest, h1, h2, h3, h4, h5⟩ := s.env.take hj
      obtain ⟨v', g', w1, w2, w3, w4⟩ := h2.zip s.le s.vars hn
      cases w2 with
      | lst hl hz r n =>
        refine ⟨v, _, h1, w1, _, _, rfl, .inl (SqL.of hl), ?_⟩
        have := q (.int _) H F fp [] ⟨Stp.refl, s, .fz (.int _), nm, nm⟩
        rw [r.len]
        exact this
/-- x[path].append(e) -/
theorem s_apq (j : Nat) (ss : List Wy) {y : IE} (ho : JP X j ss o) (he : JE X W y e)
    (hs : swapsWith (.Call (.Attribute o "append" apos) [e] [] cpos) none pos.line X.env = pure false := by rfl)
    (hbase : attributeBase o "append" X.env (eval o X.env) = eval o X.env := by rfl)
    (hline : (apos.endLine == cpos.line) = true := by rfl) (hst : starEach [e] X.env = (false, eval e X.env) :: starEach [] X.env := by rfl)
    (hfew : ((backTo cpos (starEach [e] X.env)).all (fun x => !x.1) && (backToKw cpos (keywordEach [] X.env)).all (fun x => x.1.isSome)
      && decide ([e].length + ([] : List Keyword).length + (if ([] : List Keyword).isEmpty then 0 else 1) < 30)) = true := by rfl) : JS X W P (.apq j ss y) (.Expr (.Call (.Attribute o "append" apos) [e] [] cpos) pos) := by
  refine PS.imp (ps_expr (pe_bm PySem.F.plainAttrs_list PySem.F.slot_list_append PySem.F.type_list_append mt_append ho (pa_cons he pa_nil hst) hbase hfew hline hst) hs) fun D σ H h => ?_
  obtain ⟨F, en, fp, s, h⟩ := h
  have h : WS X.K X.mg W P D H F fp σ (match en.at j with
    | some t0 => (match nav en t0 ss with
      | some (.lst _) => ((sem y).1 (en.set j none)).st fun t e1 => (match setAt en (appO t) t0 ss with
        | some t' => .nx (e1.set j (some t'))
        | none => .bad)
      | _ => .bad)
    | none => .bad) := h
  cases hj : en.at j with
  | none => rw [hj] at h; exact h.elim
  | some t0 =>
    rw [hj] at h
    have h : WS X.K X.mg W P D H F fp σ (match nav en t0 ss with
      | some (.lst _) => ((sem y).1 (en.set j none)).st fun t e1 => (match setAt en (appO t) t0 ss with
        | some t' => .nx (e1.set j (some t'))
        | none => .bad)
      | _ => .bad) := h
    cases hn : nav en t0 ss with
    | none => rw [hn] at h; exact h.elim
    | some u =>
      rw [hn] at h
      cases u <;> first | exact h.elim | skip
      rename_i ts
      have h : WS X.K X.mg W P D H F fp σ (((sem y).1 (en.set j none)).st fun t e1 => (match setAt en (appO t) t0 ss with
        | some t' => .nx (e1.set j (some t'))
        | none => .bad)) := h
      obtain ⟨v0, g0, rest, k1, k2, k3, k4, k5⟩ := s.env.take hj
      obtain ⟨v', g, z⟩ := k2.zip s.le s.vars hn
      obtain ⟨w1, w2, w3, w4⟩ := z
      cases w2 with
      | lst hl hz r n =>
        rename_i a vs gt
        have s0 : SS X.K X.mg H F σ (en.set j none) rest := ⟨s.le, k3, fun b hb => s.own b ((k4 b).mpr (.inr hb))⟩
        refine ⟨v0, .ref a, k1, w1, tyL hl, tD_st (H0 := H) (F0 := F) (fp0 := fp) (Stp.refl.sub fun b hb => (k4 b).mpr (.inr hb)) Pr.refl s0 h fun v t H1 F1 fpe fpv e1 p h1 => ?_⟩
        obtain ⟨kA, kB, kC⟩ := p.st.held (gp := g0) k2.there k5 fun b hb => s.own b ((k4 b).mpr (.inl hb))
        cases hset : setAt en (appO t) t0 ss with
        | none => rw [hset] at h1; exact h1.elim
        | some t' =>
          rw [hset] at h1
          obtain ⟨u2, u', n1, n2⟩ := setAt_nav hset
          rw [hn] at n1
          cases n1
          have ag : a ∈ g0 := w3 a List.mem_cons_self
          have n2' : (if ts.length < sizeMax then some (OT.lst (ts ++ [t])) else none) = some u' := n2
          by_cases hlt : ts.length < sizeMax
          · rw [if_pos hlt] at n2'
            cases n2'
            have hlen := r.len
            rw [sizeMax_eq] at hlt
            refine ⟨a, vs, v, rfl, rfl, kA a ag _ hl, by omega, ?_⟩
            have hgt : ∀ b ∈ gt, b ∈ g0 := fun b hb => w3 b (List.mem_cons_of_mem _ hb)
            have afpv : a ∉ fpv := fun z => kC a ag (List.mem_append_left _ z)
            have child : OTR X.K X.mg (upd H1 a (.lst (vs ++ [v]))) F1 (.ref a) (.lst (ts ++ [t])) (a :: (gt ++ fpv)) := by
              refine .lst upd_same (by rw [List.length_append]; show vs.length + 1 ≤ _; omega) ?_ fun z => ?_
              · refine OTRs.snoc (r.keep p.st.fz fun b hb o h => ?_) (p.val.keep (Same.refl _) fun b hb o h => ?_) fun b hb z => kC b (hgt b z) (List.mem_append_left _ hb)
                · rw [upd_ne (fun z => n (by rw [← z]; exact hb))]; exact kA b (hgt b hb) o h
                · rw [upd_ne (fun z => afpv (by rw [← z]; exact hb))]; exact h
              · rcases List.mem_append.mp z with y | y
                · exact n y
                · exact afpv y
            obtain ⟨fp2, q1, q2⟩ := put_path (e1 := e1) ⟨w1, .lst hl hz r n, w3, w4⟩ p.ss.le p.st.fz kA kB p.ss.env p.ss.own p.own kC p.dis k1 (H2 := upd H1 a (.lst (vs ++ [v]))) (fun b hb o h => by
              rw [upd_ne (fun z => hb (by rw [z]; exact List.mem_cons_self))]; exact h) child (fun b hb => by
              rcases List.mem_cons.mp hb with rfl | hb
              · exact .inl List.mem_cons_self
              · exact (List.mem_append.mp hb).imp (fun z => List.mem_cons_of_mem _ z) id) n2 hset
            refine h1 σ _ F1 fp2 ?_ q1 Pr.refl
            have st1 : Stp H F fp H1 F1 (g0 ++ (fpv ++ fpe)) := (Stp.refl.sub fun b hb => by
              rcases List.mem_append.mp hb with y | y
              · exact (k4 b).mpr (.inl y)
              · exact (k4 b).mpr (.inr y) : Stp H F fp H F (g0 ++ rest)).trans p.st.frameL
            refine (st1.trans (Stp.wrs (g := [a]) (fun b hb => by
              have : b = a := by simpa using hb
              rw [this]; exact List.mem_append_left _ ag) fun b hb o h => by
              rw [upd_ne (fun z => hb (by rw [z]; exact List.mem_cons_self))]; exact h)).sub fun b hb => ?_
            rcases q2 b hb with y | y | y
            · exact List.mem_append_left _ y
            · exact List.mem_append_right _ (List.mem_append_left _ y)
            · exact List.mem_append_right _ (List.mem_append_right _ y)
          · rw [if_neg hlt] at n2'; cases n2'
end
end Rx
end

section
/-! Rx, part 24: an item at a path set; a number added to an attribute; methods of own classes. -/
namespace Rx
open PySem PySem.Spec PyProof.Rows L2
/-- a method m of the class c that keeps the promise f -/
structure HasMd (P : Program) (w : World) (K : PySem.W.Frag) (mg : Str → Option Value) (base : Heap) (k : Nat) (c m : Str) (ms : List Bool) (f : Fn) : Prop where
  ex : ∃ (C fa : Addr) (fd : FuncData) (ps : List Str), FnOk P w K mg base (L2.CX P w) k fa fd ps (spF K mg (true :: ms) f) ∧ mg c = some (.ref C) ∧ Cls K C ∧ Meth K C m fa ∧ Binds K fd ps []
theorem HasMd.mono {P : Program} {w : World} {K : PySem.W.Frag} {mg : Str → Option Value} {base : Heap} {j k : Nat} {c m : Str} {ms : List Bool} {f : Fn} (h : HasMd P w K mg base j c m ms f) (hk : j ≤ k) : HasMd P w K mg base k c m ms f := by
  obtain ⟨C, fa, fd, ps, F, r⟩ := h.ex
  exact ⟨C, fa, fd, ps, F.mono hk, r⟩
section
variable {K : PySem.W.Frag} {mg : Str → Option Value} {H F : Hp}
theorem OTRf.lookup_none : ∀ {vs : List (Str × V)} {ts : List (Str × OT)} {fp : List Addr} {x : Str}, OTRf K mg H F vs ts fp → ts.lookup x = none → vs.lookup x = none
  | _, _, _, _, .nil, _ => rfl
  | _, _, _, x, .cons (f := f) o r n, h => by
    rw [List.lookup_cons] at h ⊢
    cases e : x == f with
    | true => rw [e] at h; cases h
    | false => rw [e] at h; exact OTRf.lookup_none r h
end
section
variable {X : Cx} {W : WX} {k j : Nat} {P : Nat → Bool} {pos pos' p p2 p3 apos cpos : Pos} {a b c e o value : Expr} {es : List Expr} {ss : List Wy} {x : IE} {xs : List IE} {ta te ti : TE} {t : TA} {st : Stmt}
/-- x[path][i] = e -/
theorem ps_stp {w : Wy} {y : IE} (hs : PS X st (tAsg te (gSub (tPath X.K X.mg j ss) ti rSetL))) (hte : ∀ σ H Q, tDX X W (sem y).1 σ H Q → te σ H Q)
    (hti : ∀ (σ : L2.St) (e : Ev) (t : OT) (ts : List OT) (u' : OT), VarsOk σ e → stpO e w t (.lst ts) = some u' → ∃ i n, plc ts.length i = some n ∧ u' = .lst (ts.set n t) ∧ ∀ H Q, Q (.int i) H → ti σ H Q) : JS X W P (.stp j ss w y) st := by
  refine PS.imp hs fun D σ H h => ?_
  obtain ⟨F, en, fp, s, h⟩ := h
  have h : WS X.K X.mg W P D H F fp σ (((sem y).1 en).st fun t e1 => ofO (updAt j ss (stpO e1 w t) e1)) := h
  refine hte σ H _ (tD_st Stp.refl Pr.refl s h fun v t H1 F1 fpe fpv e1 p h1 => ?_)
  cases hj : e1.at j with
  | none => simp only [updAt, hj] at h1; exact h1.elim
  | some t0 =>
    simp only [updAt, hj] at h1
    cases hset : setAt e1 (stpO e1 w t) t0 ss with
    | none => rw [hset] at h1; exact h1.elim
    | some t' =>
      rw [hset] at h1
      have h1 : WS X.K X.mg W P D H F fp σ (.nx (e1.set j (some t'))) := h1
      obtain ⟨u, u', n1, n2⟩ := setAt_nav hset
      cases u <;> first | (cases n2; done) | skip
      rename_i ts
      obtain ⟨i, n, n3, rfl, n4⟩ := hti σ e1 t ts u' p.ss.vars n2
      obtain ⟨v0, g0, rest, k1, k2, k3, k4, k5⟩ := p.ss.env.take hj
      obtain ⟨v', g, z⟩ := k2.zip p.ss.le p.ss.vars n1
      obtain ⟨w1, w2, w3, w4⟩ := z
      cases w2 with
      | lst hl hz r nn =>
        rename_i a vs gt
        have g0e : ∀ b ∈ g0, b ∈ fpe := fun b hb => (k4 b).mpr (.inl hb)
        have ag : a ∈ g0 := w3 a List.mem_cons_self
        have afpv : a ∉ fpv := fun z => p.dis a z (g0e a ag)
        refine ⟨v0, .ref a, k1, w1, n4 _ _ ?_⟩
        have hlen := r.len
        refine ⟨a, vs, i, n, rfl, rfl, hl, by rw [hlen]; exact (plc_ixN n3).1, ?_⟩
        have up : ∀ {g' : List Addr}, a ∉ g' → ∀ b ∈ g', ∀ o, H1 b = some o → upd H1 a (.lst (vs.set n v)) b = some o := fun {g'} hg b hb o h => by
          rw [upd_ne (fun z => hg (by rw [← z]; exact hb))]; exact h
        obtain ⟨gt', c1, c2⟩ := OTRs.set n (r.keep (H' := upd H1 a (.lst (vs.set n v))) (Same.refl _) (up nn)) (p.val.keep (Same.refl _) (up afpv)) fun b hb z => p.dis b hb (g0e b (w3 b (List.mem_cons_of_mem _ z)))
        have agt' : a ∉ gt' := fun z => (c2 a z).elim afpv nn
        have child : OTR X.K X.mg (upd H1 a (.lst (vs.set n v))) F1 (.ref a) (.lst (ts.set n t)) (a :: gt') := .lst upd_same (by rw [List.length_set]; exact hz) c1 agt'
        obtain ⟨fp2, q1, q2⟩ := put_path (e1 := e1.set j none) (fpv := fpv) ⟨w1, .lst hl hz r nn, w3, w4⟩ p.ss.le (Same.refl _) (fun _ _ _ h => h) (fun b hb => p.ss.own b (g0e b hb)) k3 (fun b hb => p.ss.own b ((k4 b).mpr (.inr hb))) p.own (fun b hb z => by
          rcases List.mem_append.mp z with y | y
          · exact p.dis b y (g0e b hb)
          · exact k5 b hb y) (fun b hb z => p.dis b hb ((k4 b).mpr (.inr z))) k1 (H2 := upd H1 a (.lst (vs.set n v))) (fun b hb o h => by
          rw [upd_ne (fun z => hb (by rw [z]; exact List.mem_cons_self))]; exact h) child (fun b hb => by
          rcases List.mem_cons.mp hb with rfl | hb
          · exact .inl List.mem_cons_self
          · exact (c2 b hb).symm.imp (fun z => List.mem_cons_of_mem _ z) id) n2 hset
        rw [List.set_set] at q1
        refine h1 σ _ F1 fp2 ((p.st.trans (Stp.wrs (g := [a]) (fun b hb => by
          have : b = a := by simpa using hb
          rw [this]; exact List.mem_append_right _ (g0e a ag)) fun b hb o h => by
          rw [upd_ne (fun z => hb (by rw [z]; exact List.mem_cons_self))]; exact h)).sub fun b hb => ?_) q1 Pr.refl
        rcases q2 b hb with y | y | y
        · exact List.mem_append_right _ (g0e b y)
        · exact List.mem_append_left _ y
        · exact List.mem_append_right _ ((k4 b).mpr (.inr y))
theorem s_stpC (j : Nat) (ss : List Wy) {i : Int} {n : Nat} {y : IE} (ho : JP X j ss o) (he : JE X W y e)
    (ha : ∀ v, assign (.Subscript o (.Constant (.int i) n p2) p3) X.env v = (do
      let ov ← holding [v] (eval o X.env)
      let iv ← holding [v, ov] (eval (.Constant (.int i) n p2) X.env)
      standAt p3
      holding [v, ov, iv] (setItem ov iv v)
      release [v, ov, iv] []) := by intro _; rfl)
    (hs : swapsWithSole [.Subscript o (.Constant (.int i) n p2) p3] e pos.line X.env = pure false := by rfl) (hw : swappedStores [.Subscript o (.Constant (.int i) n p2) p3] e X.env = pure none := by rfl)
    (h1 : (assignEach [.Subscript o (.Constant (.int i) n p2) p3] X.env).map (·.2) = [assign (.Subscript o (.Constant (.int i) n p2) p3) X.env] := by rfl) : JS X W P (.stp j ss (.c i) y) (.Assign [.Subscript o (.Constant (.int i) n p2) p3] e pos) :=
  ps_stp (ti := tC (.int i)) (ps_asg he (pg_sub ho pe_int set_list ha) hs hw h1) (fun _ _ _ h => h) fun σ e t ts u' hv h => by
    have h : (plc ts.length i).map (fun n => OT.lst (ts.set n t)) = some u' := h
    obtain ⟨n, h1, rfl⟩ := Option.map_eq_some_iff.mp h
    exact ⟨i, n, h1, rfl, fun H Q q => q⟩
theorem s_stpV (j : Nat) (ss : List Wy) {i : Nat} {z : Str} {y : IE} (ho : JP X j ss o) (hi : PE X (.Name z p2) (tVar i)) (he : JE X W y e)
    (ha : ∀ v, assign (.Subscript o (.Name z p2) p3) X.env v = (do
      let ov ← holding [v] (eval o X.env)
      let iv ← holding [v, ov] (eval (.Name z p2) X.env)
      standAt p3
      holding [v, ov, iv] (setItem ov iv v)
      release [v, ov, iv] []) := by intro _; rfl)
    (hs : swapsWithSole [.Subscript o (.Name z p2) p3] e pos.line X.env = pure false := by rfl) (hw : swappedStores [.Subscript o (.Name z p2) p3] e X.env = pure none := by rfl)
    (h1 : (assignEach [.Subscript o (.Name z p2) p3] X.env).map (·.2) = [assign (.Subscript o (.Name z p2) p3) X.env] := by rfl) : JS X W P (.stp j ss (.v i) y) (.Assign [.Subscript o (.Name z p2) p3] e pos) :=
  ps_stp (ti := tVar i) (ps_asg he (pg_sub ho hi set_list ha) hs hw h1) (fun _ _ _ h => h) fun σ e t ts u' hv h => by
    have h : (match e.at i with
      | some (.fz (.int i)) => (plc ts.length i).map fun n => OT.lst (ts.set n t)
      | _ => none) = some u' := h
    cases hi : e.at i with
    | none => rw [hi] at h; cases h
    | some ti =>
      rw [hi] at h
      cases ti <;> first | (cases h; done) | skip
      rename_i di
      cases di <;> first | (cases h; done) | skip
      rename_i m
      have h : (plc ts.length m).map (fun n => OT.lst (ts.set n t)) = some u' := h
      obtain ⟨n, h1, rfl⟩ := Option.map_eq_some_iff.mp h
      exact ⟨m, n, h1, rfl, fun H Q q => ⟨.int m, hv _ _ hi, q⟩⟩
/-- self.f += i -/
theorem s_aga {cn f : Str} (j : Nat) {n : Str} {i : Int} {m : Nat} (h : HasC X.K X.mg cn [f]) (hN : X.N[j]? = some n := by rfl) (hvi : Vis X.env.scope n := by first | exact Or.inl rfl | exact Or.inr (Or.inl rfl) | exact Or.inr (Or.inr rfl)) (hd : (n == ("__debug__" : Str)) = false := by decide) (hcd : (n == ("__classdict__" : Str)) = false := by decide) :
    JS X W P (.aga j cn f i) (.AugAssign (.Attribute (.Name n p) f pos') .Add (.Constant (.int i) m p2) pos) := by
  refine PS.imp (ps_fldaug (pe_var hN hvi hd hcd) pe_int in_add) fun D σ H q => ?_
  obtain ⟨F, en, fp, s, q⟩ := q
  have q : WS X.K X.mg W P D H F fp σ (ofO (updAt j [] (agaO cn f i) en)) := q
  cases hu : updAt j [] (agaO cn f i) en with
  | none => rw [hu] at q; exact q.elim
  | some e2 =>
    rw [hu] at q
    obtain ⟨t0, t1, hj, hst, rfl⟩ := updAt_nil hu
    cases t0 <;> first | (cases hst; done) | skip
    rename_i c0 fs0
    have hst : (if c0 = cn ∧ fs0.length < 1000 then (match fs0.lookup f with
      | some (.fz (.int n)) => some (OT.ins cn (putA f (.fz (.int (n + i))) fs0))
      | _ => none) else none) = some t1 := hst
    by_cases hz : c0 = cn ∧ fs0.length < 1000
    · rw [if_pos hz] at hst
      obtain ⟨rfl, hlen⟩ := hz
      cases hl : fs0.lookup f with
      | none => rw [hl] at hst; cases hst
      | some tf =>
        rw [hl] at hst
        cases tf <;> first | (cases hst; done) | skip
        rename_i df
        cases df <;> first | (cases hst; done) | skip
        rename_i n0
        have hst : some (OT.ins c0 (putA f (.fz (.int (n0 + i))) fs0)) = some t1 := hst
        cases hst
        obtain ⟨v0, g, rest, k1, k2, k3, k4, k5⟩ := s.env.take hj
        obtain ⟨C, hC, cl, no⟩ := h.ex
        cases k2 with
        | ins m1 m2 m3 m4 =>
          rename_i a C2 dx vs0 fp0
          have hC2 := hC.symm.trans m2
          cases hC2
          obtain ⟨v1, g1, l1, l2, _⟩ := m3.child hl
          cases l2 with
          | fz dd =>
            cases dd
            refine ⟨_, k1, a, C, dx, vs0, _, rfl, m1, cl, no f (List.mem_singleton.mpr rfl), l1, n0, i, rfl, rfl, dx, vs0, m1, by rw [m3.len]; exact hlen, ?_⟩
            have aF : F a = none := s.own a ((k4 a).mpr (.inl List.mem_cons_self))
            obtain ⟨fp', n1, n2⟩ := OTRf.put (t := .fz (.int (n0 + i))) (g := []) f m3 (.fz (.int (n0 + i))) (fun b hb => nomatch hb)
            have ar : a ∉ rest := k5 a List.mem_cons_self
            have afp' : a ∉ fp' := fun z => (n2 a z).elim (fun y => nomatch y) m4
            have ku : ∀ (S : List Addr), a ∉ S → ∀ b ∈ S, ∀ o, H b = some o → upd H a (.ins C dx (putF f (.int (n0 + i)) vs0)) b = some o := fun S hS b hb o q => by
              rw [upd_ne (fun z => hS (by rw [← z]; exact hb))]; exact q
            have r2 : OTR X.K X.mg (upd H a (.ins C dx (putF f (.int (n0 + i)) vs0))) F (.ref a) (.ins c0 (putA f (.fz (.int (n0 + i))) fs0)) (a :: fp') := .ins upd_same hC (n1.keep (Same.refl _) (ku fp' afp')) afp'
            obtain ⟨fp2, s1, s2⟩ := EvR.put (k3.keep (Same.refl _) (ku rest ar)) k1 r2 fun b hb z => by
              rcases List.mem_cons.mp hb with rfl | hb
              · exact ar z
              · rcases n2 b hb with y | y
                · cases y
                · exact k5 b (List.mem_cons_of_mem _ y) z
            rw [List.set_set] at s1
            have sub : ∀ b ∈ fp2, b ∈ fp := fun b hb => by
              rcases s2 b hb with y | y
              · rcases List.mem_cons.mp y with rfl | y
                · exact (k4 _).mpr (.inl List.mem_cons_self)
                · rcases n2 b y with y | y
                  · cases y
                  · exact (k4 b).mpr (.inl (List.mem_cons_of_mem _ y))
              · exact (k4 b).mpr (.inr y)
            refine q σ _ F fp2 ((Stp.wr ((k4 a).mpr (.inl List.mem_cons_self))).sub sub) ⟨fun b o q => ?_, s1, fun b hb => s.own b (sub b hb)⟩ Pr.refl
            rw [upd_ne (fun z => by rw [z, aF] at q; cases q)]; exact s.le b o q
    · rw [if_neg hz] at hst; cases hst
/-! ### methods -/
def tMethS (C : Addr) (m : Str) (sp : Sp) (E : L2.St → XK) (ta : TE) (t : TA) : TE := fun σ H Q => ta σ H fun x H1 => ∃ a dx fs, x = .ref a ∧ H1 a = some (.ins C dx fs) ∧ fs.lookup m = none ∧
  t σ H1 fun vs H2 => sp (x :: vs) H2 Q (E σ)
theorem pe_methS {pl : Sem Bool} {C f : Addr} {m : Str} {k : Nat} {fd : FuncData} {ps : List Str} {sp : Sp} {E : L2.St → XK} (he : PE X o ta) (c : Cls X.K C) (hm : Meth X.K C m f) (F : FnOk X.prog X.w X.K X.mg X.base (L2.CX X.prog X.w) k f fd ps sp) (hr : Room k X.A) (hb : Binds X.K fd ps []) (hx : ∀ σ, PassesAt (L2.CX X.prog X.w) X σ (E σ)) (ha : PA X (e :: es) t)
    (hst : starEach (e :: es) X.env = (false, eval e X.env) :: starEach es X.env) (hpl : (backTo pos (starEach es X.env)).any (·.1) = false)
    (ht : eval (.Call (.Attribute o m apos) (e :: es) [] pos) X.env = (do
      let ov ← eval o X.env
      standAt apos.atName
      let (f, first) ← holding [ov] (getMethod ov m pl)
      callWith pos f first (backTo pos (starEach (e :: es) X.env)) (backToKw pos (keywordEach [] X.env)))) :
    PE X (.Call (.Attribute o m apos) (e :: es) [] pos) (tMethS C m sp E ta t) := by
  refine ⟨fun pins s σ H Q I h => ?_⟩
  refine PySem.W.methodCall_KW (pl := pl) (thn (he.run pins s σ H _ I h) fun u s1 ⟨x, H1, I1, rx, a, dx, fs, ex, ea, l, q⟩ => ?_) ht
  subst ex
  obtain rfl : u = Value.ref a := rx
  refine getmeth_ok I1 ea c hm l ?_
  refine PySem.W.callWith_K (first := [.ref a]) (h₀ := X.base) I.ok.mod.kin hm.kp (thn (ha.run pos pins s1 σ H1 _ I1 q) fun us s2 ⟨vs, H2, I2, r, q2⟩ => ⟨I2.kIn, ?_⟩) hst hpl
  exact run_fnS (us := .ref a :: us) (vs := .ref a :: vs) F hr hb (hx σ) I2 (.cons rfl r) q2
theorem pe_methS0 {pl : Sem Bool} {C f : Addr} {m : Str} {k : Nat} {fd : FuncData} {ps : List Str} {sp : Sp} {E : L2.St → XK} (he : PE X o ta) (c : Cls X.K C) (hm : Meth X.K C m f) (F : FnOk X.prog X.w X.K X.mg X.base (L2.CX X.prog X.w) k f fd ps sp) (hr : Room k X.A) (hb : Binds X.K fd ps []) (hx : ∀ σ, PassesAt (L2.CX X.prog X.w) X σ (E σ))
    (ht : eval (.Call (.Attribute o m apos) [] [] pos) X.env = (do
      let ov ← eval o X.env
      standAt apos.atName
      let (f, first) ← holding [ov] (getMethod ov m pl)
      callWith pos f first (backTo pos (starEach [] X.env)) (backToKw pos (keywordEach [] X.env)))) :
    PE X (.Call (.Attribute o m apos) [] [] pos) (tMethS C m sp E ta tNil) := by
  refine ⟨fun pins s σ H Q I h => ?_⟩
  refine PySem.W.methodCall_KW (pl := pl) (thn (he.run pins s σ H _ I h) fun u s1 ⟨x, H1, I1, rx, a, dx, fs, ex, ea, l, q⟩ => ?_) ht
  subst ex
  obtain rfl : u = Value.ref a := rx
  refine getmeth_ok I1 ea c hm l ?_
  exact PySem.W.callWith_K0 (first := [.ref a]) I1.kIn hm.kp (run_fnS (us := [.ref a]) (vs := [.ref a]) F hr hb (hx σ) I1 (.cons rfl .nil) q)
theorem meth_pre {cn m : Str} {j : Nat} {β : Type} {f : Ev → R β} {kk : β → Ev → Prop} {σ : L2.St} {H F : Hp} {fp : List Addr} {en : Ev} (s : SS X.K X.mg H F σ en fp) {C : Addr} (hC : X.mg cn = some (.ref C))
    (q : WP X.K X.mg W σ H F fp ((M.get j en).bind fun t e1 => (chkM cn m t e1).bind fun _ e2 => f e2) kk) : ∃ a dx fs, σ[j]? = some (some (.ref a)) ∧ H a = some (.ins C dx fs) ∧ fs.lookup m = none ∧ WP X.K X.mg W σ H F fp (f en) kk := by
  cases hj : en.at j with
  | none => simp only [M.get, hj] at q; exact q.elim
  | some t =>
    simp only [M.get, hj, R.bind] at q
    cases t <;> first | exact q.elim | skip
    rename_i c0 fs0
    have q2 : WP X.K X.mg W σ H F fp (((if c0 = cn ∧ fs0.lookup m = none then M.pure () else fun _ => .bad : M Unit) en).bind fun _ e2 => f e2) kk := q
    clear q
    by_cases hz : c0 = cn ∧ fs0.lookup m = none
    · rw [if_pos hz] at q2
      have q : WP X.K X.mg W σ H F fp (f en) kk := q2
      clear q2
      obtain ⟨rfl, hl⟩ := hz
      obtain ⟨v, g, h1, h2, _⟩ := s.env.at hj
      cases h2 with
      | ins m1 m2 m3 m4 =>
        have hC2 := hC.symm.trans m2
        cases hC2
        exact ⟨_, _, _, h1, m1, m3.lookup_none hl, q⟩
    · rw [if_neg hz] at q2; exact q2.elim
/-- x.m(..) -/
theorem e_meth {cn m n : Str} {ms : List Bool} {f : Fn} {i : Nat} {pl : Sem Bool} (j : Nat) (c : Cq X W k) (M : HasMd X.prog X.w X.K X.mg X.base i cn m ms f) (ho : PE X (.Name n p) (tVar j)) (ha : JLA X W ms xs (e :: es)) (hk : decide (i ≤ k) = true := by rfl) (hl : xs.length = ms.length := by rfl)
    (hst : starEach (e :: es) X.env = (false, eval e X.env) :: starEach es X.env := by rfl) (hpl : (backTo pos (starEach es X.env)).any (·.1) = false := by rfl)
    (ht : eval (.Call (.Attribute (.Name n p) m apos) (e :: es) [] pos) X.env = (do
      let ov ← eval (.Name n p) X.env
      standAt apos.atName
      let (f, first) ← holding [ov] (getMethod ov m pl)
      callWith pos f first (backTo pos (starEach (e :: es) X.env)) (backToKw pos (keywordEach [] X.env))) := by rfl) : JE X W (.meth cn m ms f j xs) (.Call (.Attribute (.Name n p) m apos) (e :: es) [] pos) := by
  obtain ⟨C, fa, fd, ps, Fk, hC, cl, hm, hb⟩ := M.ex
  refine PE.imp (pe_methS (E := WE W) ho cl hm Fk (c.room.mono (of_decide_eq_true hk)) hb (fun σ => passAt c.tk σ) ha hst hpl ht) fun σ H Q q => ?_
  obtain ⟨F, en, fp, s, q⟩ := q
  have q : WP X.K X.mg W σ H F fp ((Rx.M.get j en).bind fun t e1 => (chkM cn m t e1).bind fun _ e2 => (evArgs ms xs e2).bind fun as e3 => callF f ((none, some j) :: as) e3) (FinV X.K X.mg H F fp σ Q) := q
  obtain ⟨a, dx, fs, h1, h2, h3, q⟩ := meth_pre s hC q
  refine ⟨.ref a, h1, a, dx, fs, rfl, h2, h3, F, en, fp, s, ?_⟩
  cases hm2 : evArgs ms xs en with
  | bad => rw [hm2] at q; exact q
  | exn z e1 => rw [hm2] at q; exact q
  | ok as e1 =>
    rw [hm2] at q
    intro vs H1 F1 fpe fpa pp
    refine call_end (as := (none, some j) :: as) (e1 := e1) (by simp only [List.length_cons]; rw [evArgs_length hm2, hl]) ⟨pp.st, pp.ss, ?_, pp.dis, pp.own, .cons (fun j' z => by cases z; exact h1) pp.bk⟩ q
    exact EvR.cons (fp := []) (fps := fpa) .no pp.val fun _ z => nomatch z
theorem e_meth0 {cn m n : Str} {f : Fn} {i : Nat} {pl : Sem Bool} (j : Nat) (c : Cq X W k) (M : HasMd X.prog X.w X.K X.mg X.base i cn m [] f) (ho : PE X (.Name n p) (tVar j)) (hk : decide (i ≤ k) = true := by rfl)
    (ht : eval (.Call (.Attribute (.Name n p) m apos) [] [] pos) X.env = (do
      let ov ← eval (.Name n p) X.env
      standAt apos.atName
      let (f, first) ← holding [ov] (getMethod ov m pl)
      callWith pos f first (backTo pos (starEach [] X.env)) (backToKw pos (keywordEach [] X.env))) := by rfl) : JE X W (.meth cn m [] f j []) (.Call (.Attribute (.Name n p) m apos) [] [] pos) := by
  obtain ⟨C, fa, fd, ps, Fk, hC, cl, hm, hb⟩ := M.ex
  refine PE.imp (pe_methS0 (E := WE W) ho cl hm Fk (c.room.mono (of_decide_eq_true hk)) hb (fun σ => passAt c.tk σ) ht) fun σ H Q q => ?_
  obtain ⟨F, en, fp, s, q⟩ := q
  have q : WP X.K X.mg W σ H F fp ((Rx.M.get j en).bind fun t e1 => (chkM cn m t e1).bind fun _ e2 => (evArgs [] [] e2).bind fun as e3 => callF f ((none, some j) :: as) e3) (FinV X.K X.mg H F fp σ Q) := q
  obtain ⟨a, dx, fs, h1, h2, h3, q⟩ := meth_pre s hC q
  refine ⟨.ref a, h1, a, dx, fs, rfl, h2, h3, ?_⟩
  have q : WP X.K X.mg W σ H F fp (callF f [(none, some j)] en) (FinV X.K X.mg H F fp σ Q) := q
  exact call_end (as := [(none, some j)]) (fpa := []) rfl ⟨Stp.refl, s, .cons (fp := []) (fps := []) .no .nil (fun _ z => nomatch z), nm, nm, .cons (fun j' z => by cases z; exact h1) .nil⟩ q
end
end Rx
end

section
/-! what World.read and World.write do (plain Lean) -/
namespace Rx
open PySem
/-- the world, by its parts -/
abbrev wO (ts bs : List OT) (x : OT) : OT := .ins "World" [("things", .lst ts), ("breaches", .lst bs), ("executed", x)]
abbrev thO (nm : OT) (k : List Nat) (ks : List D) (vl : OT) : OT := .ins "Thing" [("name", nm), ("kind", .fz (.tup (.str k :: ks))), ("value", vl)]
def brk (c : Nat) (i : Int) (k : List Nat) (bs : List OT) : List OT := if c ∈ k then bs else bs ++ [.fz (.tup [.str [c], .int i])]
inductive ReadR : List (Option OT) → Option OT × List (Option OT) → Prop
  | mk {ts bs : List OT} {x nm : OT} {i : Int} {n : Nat} {k : List Nat} {ks : List D} {v : D} {s2 : Option OT} : plc ts.length i = some n → ts[n]? = some (thO nm k ks (.fz v)) → bs.length < sizeMax →
    ReadR [some (wO ts bs x), some (.fz (.int i)), s2] (some (.fz v), [some (wO ts (brk 114 i k bs) x), some (.fz (.int i)), none])
inductive WriteR : List (Option OT) → Option OT × List (Option OT) → Prop
  | mk {ts bs : List OT} {x nm vl : OT} {i : Int} {n : Nat} {k : List Nat} {ks : List D} {v : D} {s3 : Option OT} : plc ts.length i = some n → ts[n]? = some (thO nm k ks vl) → bs.length < sizeMax →
    WriteR [some (wO ts bs x), some (.fz (.int i)), some (.fz v), s3] (none, [some (wO (ts.set n (thO nm k ks (.fz v))) (brk 119 i k bs) x), some (.fz (.int i)), some (.fz v), none])
open Classical in
noncomputable def readS : List (Option OT) → Option (Option OT × List (Option OT)) := fun e => if h : ∃ r, ReadR e r then some h.choose else none
open Classical in
noncomputable def writeS : List (Option OT) → Option (Option OT × List (Option OT)) := fun e => if h : ∃ r, WriteR e r then some h.choose else none
theorem ReadR.uniq {e : List (Option OT)} {r r' : Option OT × List (Option OT)} (h : ReadR e r) (h' : ReadR e r') : r = r' := by
  cases h with
  | mk a1 a2 a3 =>
    cases h' with
    | mk b1 b2 b3 =>
      rw [a1] at b1; cases b1
      rw [a2] at b2; cases b2
      rfl
theorem WriteR.uniq {e : List (Option OT)} {r r' : Option OT × List (Option OT)} (h : WriteR e r) (h' : WriteR e r') : r = r' := by
  cases h with
  | mk a1 a2 a3 =>
    cases h' with
    | mk b1 b2 b3 =>
      rw [a1] at b1; cases b1
      rw [a2] at b2; cases b2
      rfl
theorem readS_of {e : List (Option OT)} {r : Option OT × List (Option OT)} (h : ReadR e r) : readS e = some r := by
  have hh : ∃ r, ReadR e r := ⟨r, h⟩
  unfold readS
  rw [dif_pos hh, h.uniq hh.choose_spec]
theorem writeS_of {e : List (Option OT)} {r : Option OT × List (Option OT)} (h : WriteR e r) : writeS e = some r := by
  have hh : ∃ r, WriteR e r := ⟨r, h⟩
  unfold writeS
  rw [dif_pos hh, h.uniq hh.choose_spec]
theorem readS_some {e : List (Option OT)} {r : Option OT × List (Option OT)} (h : readS e = some r) : ReadR e r := by
  unfold readS at h
  split at h
  · rename_i hh; cases h; exact hh.choose_spec
  · cases h
theorem writeS_some {e : List (Option OT)} {r : Option OT × List (Option OT)} (h : writeS e = some r) : WriteR e r := by
  unfold writeS at h
  split at h
  · rename_i hh; cases h; exact hh.choose_spec
  · cases h
end Rx
end

section
/-! Rx, part 25: World.read, World.write: a thing of a list that an instance holds, under a name of its own. -/
namespace Rx
open PySem PySem.Spec PyProof.Rows L2
section
variable (K : PySem.W.Frag) (mg : Str → Option Value)
structure WO (H F : Hp) (σ : L2.St) (e : Ev) (ts bs : List OT) (x : OT) (a C dx lT lB : Addr) (vsT vsB : List V) (vX : V) (gT gB gX rest : List Addr) (tag : Addr → Nat) : Prop where
  slot : σ[0]? = some (some (.ref a))
  obj : H a = some (.ins C dx [("things", .ref lT), ("breaches", .ref lB), ("executed", vX)])
  cls : mg "World" = some (.ref C)
  oT : H lT = some (.lst vsT)
  zT : vsT.length ≤ sizeLine
  rT : OTRs K mg H F vsT ts gT
  oB : H lB = some (.lst vsB)
  zB : vsB.length ≤ sizeLine
  rB : OTRs K mg H F vsB bs gB
  rX : OTR K mg H F vX x gX
  env : EvR K mg H F σ (e.set 0 none) rest
  le : Same F H
  own : ∀ b, (b = a ∨ b = lT ∨ b = lB ∨ b ∈ gT ∨ b ∈ gB ∨ b ∈ gX ∨ b ∈ rest) → F b = none
  ta : tag a = 0
  tT : tag lT = 1
  tB : tag lB = 2
  tgT : ∀ b ∈ gT, tag b = 3
  tgB : ∀ b ∈ gB, tag b = 4
  tgX : ∀ b ∈ gX, tag b = 5
  tr : ∀ b ∈ rest, tag b = 6
end
section
variable {K : PySem.W.Frag} {mg : Str → Option Value} {H F H' F' : Hp} {σ σ' : L2.St} {e : Ev} {fp : List Addr} {ts bs : List OT} {x : OT} {a C dx lT lB : Addr} {vsT vsB : List V} {vX : V} {gT gB gX rest : List Addr} {tag : Addr → Nat}
/-- the world's addresses -/
abbrev wL (a lT lB : Addr) (gT gB gX rest : List Addr) : List Addr := a :: lT :: lB :: (gT ++ (gB ++ (gX ++ rest)))
theorem wL_mem {b : Addr} : b ∈ wL a lT lB gT gB gX rest ↔ b = a ∨ b = lT ∨ b = lB ∨ b ∈ gT ∨ b ∈ gB ∨ b ∈ gX ∨ b ∈ rest := by simp [wL]
theorem SS.world (s : SS K mg H F σ e fp) (hj : e.at 0 = some (wO ts bs x)) : ∃ a C dx lT lB vsT vsB vX gT gB gX rest tag, WO K mg H F σ e ts bs x a C dx lT lB vsT vsB vX gT gB gX rest tag ∧ ∀ b ∈ wL a lT lB gT gB gX rest, b ∈ fp := by
  obtain ⟨v, g, rest, k1, k2, k3, k4, k5⟩ := s.env.take hj
  cases k2 with
  | ins m1 m2 m3 m4 =>
    rename_i a C dx fs fp0
    cases m3 with
    | cons o1 r1 d1 =>
      rename_i v1 vs1 f1 g1
      cases r1 with
      | cons o2 r2 d2 =>
        rename_i v2 vs2 f2 g2
        cases r2 with
        | cons o3 r3 d3 =>
          rename_i v3 vs3 f3 g3
          cases r3
          cases o1 with
          | lst hT zT rT nT =>
            rename_i lT vsT gT
            cases o2 with
            | lst hB zB rB nB =>
              rename_i lB vsB gB
              have hd1 : ∀ b, (b = lT ∨ b ∈ gT) → b ≠ a ∧ b ≠ lB ∧ b ∉ gB ∧ b ∉ f3 ∧ b ∉ rest := fun b hb => by
                have q1 : b ∈ lT :: gT := List.mem_cons.mpr hb
                refine ⟨fun z => m4 (by rw [← z]; exact List.mem_append_left _ q1), fun z => d1 b q1 ?_, fun z => d1 b q1 ?_, fun z => d1 b q1 ?_, k5 b (List.mem_cons_of_mem _ (List.mem_append_left _ q1))⟩
                · rw [z]; exact List.mem_append_left _ List.mem_cons_self
                · exact List.mem_append_left _ (List.mem_cons_of_mem _ z)
                · exact List.mem_append_right _ (List.mem_append_left _ z)
              have hd2 : ∀ b, (b = lB ∨ b ∈ gB) → b ≠ a ∧ b ∉ f3 ∧ b ∉ rest := fun b hb => by
                have q1 : b ∈ lB :: gB := List.mem_cons.mpr hb
                refine ⟨fun z => m4 (by rw [← z]; exact List.mem_append_right _ (List.mem_append_left _ q1)), fun z => d2 b q1 (List.mem_append_left _ z), k5 b (List.mem_cons_of_mem _ (List.mem_append_right _ (List.mem_append_left _ q1)))⟩
              have hd3 : ∀ b ∈ f3, b ≠ a ∧ b ∉ rest := fun b hb => by
                have q1 : b ∈ (lT :: gT) ++ ((lB :: gB) ++ (f3 ++ [])) := List.mem_append_right _ (List.mem_append_right _ (List.mem_append_left _ hb))
                exact ⟨fun z => m4 (by rw [← z]; exact q1), k5 b (List.mem_cons_of_mem _ q1)⟩
              have hd0 : a ∉ rest := k5 a List.mem_cons_self
              have hmem : ∀ b, (b = a ∨ b = lT ∨ b = lB ∨ b ∈ gT ∨ b ∈ gB ∨ b ∈ f3 ∨ b ∈ rest) → b ∈ fp := fun b hb => by
                rw [k4]
                simp only [List.mem_cons, List.mem_append, List.not_mem_nil, or_false]
                rcases hb with h | h | h | h | h | h | h <;> simp [h]
              refine ⟨a, C, dx, lT, lB, vsT, vsB, v3, gT, gB, f3, rest, fun b => if b = a then 0 else if b = lT then 1 else if b = lB then 2 else if b ∈ gT then 3 else if b ∈ gB then 4 else if b ∈ f3 then 5 else 6,
                ⟨k1, m1, m2, hT, zT, rT, hB, zB, rB, o3, k3, s.le, fun b hb => s.own b (hmem b hb), by simp, ?_, ?_, fun b hb => ?_, fun b hb => ?_, fun b hb => ?_, fun b hb => ?_⟩, fun b hb => hmem b (wL_mem.mp hb)⟩
              · have := hd1 lT (.inl rfl)
                simp [this.1]
              · have h1 := hd2 lB (.inl rfl)
                have h2 := hd1 lT (.inl rfl)
                simp [h1.1, Ne.symm h2.2.1]
              · have h1 := hd1 b (.inr hb)
                have h2 : b ≠ lT := fun z => nT (by rw [← z]; exact hb)
                simp [h1.1, h2, h1.2.1, hb]
              · have h1 := hd2 b (.inr hb)
                have h2 : b ≠ lT := fun z => (hd1 b (.inl z)).2.2.1 hb
                have h3 : b ∉ gT := fun z => (hd1 b (.inr z)).2.2.1 hb
                have h4 : b ≠ lB := fun z => nB (by rw [← z]; exact hb)
                simp [h1.1, h2, h3, h4, hb]
              · have h1 := hd3 b hb
                have h2 : b ≠ lT := fun z => (hd1 b (.inl z)).2.2.2.1 hb
                have h3 : b ∉ gT := fun z => (hd1 b (.inr z)).2.2.2.1 hb
                have h4 : b ≠ lB := fun z => (hd2 b (.inl z)).2.1 hb
                have h5 : b ∉ gB := fun z => (hd2 b (.inr z)).2.1 hb
                simp [h1.1, h2, h3, h4, h5, hb]
              · have h1 : b ≠ a := fun z => hd0 (by rw [← z]; exact hb)
                have h2 : b ≠ lT := fun z => (hd1 b (.inl z)).2.2.2.2 hb
                have h3 : b ∉ gT := fun z => (hd1 b (.inr z)).2.2.2.2 hb
                have h4 : b ≠ lB := fun z => (hd2 b (.inl z)).2.2 hb
                have h5 : b ∉ gB := fun z => (hd2 b (.inr z)).2.2 hb
                have h6 : b ∉ f3 := fun z => (hd3 b z).2 hb
                simp [h1, h2, h3, h4, h5, h6]
/-- the world is put together again -/
theorem WO.close (w : WO K mg H F σ e ts bs x a C dx lT lB vsT vsB vX gT gB gX rest tag) : ∃ fp', SS K mg H F σ (e.set 0 (some (wO ts bs x))) fp' ∧ ∀ b ∈ fp', b ∈ wL a lT lB gT gB gX rest := by
  have o : OTR K mg H F (.ref a) (wO ts bs x) (a :: ((lT :: gT) ++ ((lB :: gB) ++ (gX ++ [])))) := by
    refine .ins w.obj w.cls (.cons (.lst w.oT w.zT w.rT fun z => ?_) (.cons (.lst w.oB w.zB w.rB fun z => ?_) (.cons w.rX .nil fun _ _ z => nomatch z) fun b hb z => ?_) fun b hb z => ?_) fun z => ?_
    · have := w.tgT _ z; rw [w.tT] at this; cases this
    · have := w.tgB _ z; rw [w.tB] at this; cases this
    · rw [List.append_nil] at z
      have h5 := w.tgX b z
      rcases List.mem_cons.mp hb with rfl | hb
      · rw [w.tB] at h5; cases h5
      · rw [w.tgB b hb] at h5; cases h5
    · have h1 : tag b = 1 ∨ tag b = 3 := (List.mem_cons.mp hb).imp (fun q => by rw [q, w.tT]) fun q => w.tgT b q
      have h2 : tag b = 2 ∨ tag b = 4 ∨ tag b = 5 := by
        rcases List.mem_append.mp z with q | q
        · rcases List.mem_cons.mp q with q | q
          · exact .inl (by rw [q, w.tB])
          · exact .inr (.inl (w.tgB b q))
        · rw [List.append_nil] at q; exact .inr (.inr (w.tgX b q))
      omega
    · have h0 := w.ta
      simp only [List.mem_append, List.mem_cons, List.not_mem_nil, or_false] at z
      rcases z with (z | z) | (z | z) | z
      · rw [z, w.tT] at h0; cases h0
      · rw [w.tgT _ z] at h0; cases h0
      · rw [z, w.tB] at h0; cases h0
      · rw [w.tgB _ z] at h0; cases h0
      · rw [w.tgX _ z] at h0; cases h0
  obtain ⟨fp', h1, h2⟩ := w.env.put w.slot o fun b hb z => by
    have h6 := w.tr b z
    simp only [List.mem_append, List.mem_cons, List.not_mem_nil, or_false] at hb
    rcases hb with q | (q | q) | (q | q) | q
    · rw [q, w.ta] at h6; cases h6
    · rw [q, w.tT] at h6; cases h6
    · rw [w.tgT _ q] at h6; cases h6
    · rw [q, w.tB] at h6; cases h6
    · rw [w.tgB _ q] at h6; cases h6
    · rw [w.tgX _ q] at h6; cases h6
  rw [List.set_set] at h1
  have h3 : ∀ b ∈ fp', b ∈ wL a lT lB gT gB gX rest := fun b hb => by
    rw [wL_mem]
    rcases h2 b hb with q | q
    · simp only [List.mem_append, List.mem_cons, List.not_mem_nil, or_false] at q
      rcases q with q | (q | q) | (q | q) | q <;> simp [q]
    · simp [q]
  exact ⟨fp', ⟨w.le, h1, fun b hb => w.own b (wL_mem.mp (h3 b hb))⟩, h3⟩
theorem WO.there (w : WO K mg H F σ e ts bs x a C dx lT lB vsT vsB vX gT gB gX rest tag) : ∀ b ∈ wL a lT lB gT gB gX rest, ∃ o, H b = some o := fun b hb => by
  rcases wL_mem.mp hb with rfl | rfl | rfl | q | q | q | q
  · exact ⟨_, w.obj⟩
  · exact ⟨_, w.oT⟩
  · exact ⟨_, w.oB⟩
  · exact w.rT.there b q
  · exact w.rB.there b q
  · exact w.rX.there b q
  · exact w.env.there b q
/-- a step that owns nothing -/
theorem WO.mono (w : WO K mg H F σ e ts bs x a C dx lT lB vsT vsB vX gT gB gX rest tag) (s : Stp H F [] H' F' []) (le : Same F' H') : WO K mg H' F' σ e ts bs x a C dx lT lB vsT vsB vX gT gB gX rest tag := by
  obtain ⟨k1, k2, _⟩ := s.held (gp := wL a lT lB gT gB gX rest) w.there (fun b _ z => nomatch z) fun b hb => w.own b (wL_mem.mp hb)
  have k : ∀ b, (b = a ∨ b = lT ∨ b = lB ∨ b ∈ gT ∨ b ∈ gB ∨ b ∈ gX ∨ b ∈ rest) → ∀ o, H b = some o → H' b = some o := fun b hb => k1 b (wL_mem.mpr hb)
  exact ⟨w.slot, k a (by simp) _ w.obj, w.cls, k lT (by simp) _ w.oT, w.zT, w.rT.keep s.fz fun b hb => k b (by simp [hb]), k lB (by simp) _ w.oB, w.zB, w.rB.keep s.fz fun b hb => k b (by simp [hb]), w.rX.keep s.fz fun b hb => k b (by simp [hb]), w.env.keep s.fz fun b hb => k b (by simp [hb]), le,
    fun b hb => k2 b (wL_mem.mpr hb), w.ta, w.tT, w.tB, w.tgT, w.tgB, w.tgX, w.tr⟩
/-- a breach more -/
theorem WO.breach (w : WO K mg H F σ e ts bs x a C dx lT lB vsT vsB vX gT gB gX rest tag) {v : V} {d : D} (hv : DR K mg F v d) (hz : vsB.length < sizeLine) :
    WO K mg (upd H lB (.lst (vsB ++ [v]))) F σ e ts (bs ++ [.fz d]) x a C dx lT lB vsT (vsB ++ [v]) vX gT gB gX rest tag := by
  have ku : ∀ b, tag b ≠ 2 → ∀ o, H b = some o → upd H lB (.lst (vsB ++ [v])) b = some o := fun b hb o h => by
    rw [upd_ne (fun z => hb (by rw [z, w.tB]))]; exact h
  have nn : ∀ (b : Addr) (n : Nat), n ≠ 2 → tag b = n → tag b ≠ 2 := fun b n h1 h2 => by rw [h2]; exact h1
  refine ⟨w.slot, ku a (nn a 0 (by decide) w.ta) _ w.obj, w.cls, ku lT (nn lT 1 (by decide) w.tT) _ w.oT, w.zT, w.rT.keep (Same.refl _) fun b hb => ku b (nn b 3 (by decide) (w.tgT b hb)), upd_same, by rw [List.length_append]; show vsB.length + 1 ≤ _; omega, ?_,
    w.rX.keep (Same.refl _) fun b hb => ku b (nn b 5 (by decide) (w.tgX b hb)), w.env.keep (Same.refl _) fun b hb => ku b (nn b 6 (by decide) (w.tr b hb)), fun b o h => ?_, w.own, w.ta, w.tT, w.tB, w.tgT, w.tgB, w.tgX, w.tr⟩
  · have := OTRs.snoc (w.rB.keep (H' := upd H lB (.lst (vsB ++ [v]))) (Same.refl _) fun b hb => ku b (nn b 4 (by decide) (w.tgB b hb))) (.fz hv) (fun b hb => nomatch hb)
    simpa using this
  · by_cases q : b = lB
    · have := w.own b (.inr (.inr (.inl q)))
      rw [this] at h; cases h
    · rw [upd_ne q]; exact w.le b o h
/-- a thing's own new value -/
theorem WO.value (w : WO K mg H F σ e ts bs x a C dx lT lB vsT vsB vX gT gB gX rest tag) {n : Nat} {nm vl : OT} {k : List Nat} {ks : List D} (hn : ts[n]? = some (thO nm k ks vl)) : ∃ th CT dxT vn vk vv, vsT[n]? = some (.ref th) ∧ H th = some (.ins CT dxT [("name", vn), ("kind", vk), ("value", vv)]) ∧
    mg "Thing" = some (.ref CT) ∧ DR K mg F vk (.tup (.str k :: ks)) ∧ (∀ d, vl = .fz d → DR K mg F vv d) ∧ th ∈ gT ∧
    ∀ (v : V) (d : D), DR K mg F v d → ∃ gT', WO K mg (upd H th (.ins CT dxT [("name", vn), ("kind", vk), ("value", v)])) F σ e (ts.set n (thO nm k ks (.fz d))) bs x a C dx lT lB vsT vsB vX gT' gB gX rest tag ∧ ∀ b ∈ gT', b ∈ gT := by
  obtain ⟨v1, g1, h1, h2, h3, h4⟩ := w.rT.child hn
  cases h2 with
  | ins m1 m2 m3 m4 =>
    rename_i th CT dxT fs fp0
    cases m3 with
    | cons o1 r1 d1 =>
      rename_i vn vs1 f1 gg1
      cases r1 with
      | cons o2 r2 d2 =>
        rename_i vk vs2 f2 gg2
        cases r2 with
        | cons o3 r3 d3 =>
          rename_i vv vs3 f3 gg3
          cases r3
          cases o2 with
          | fz dk =>
            have tin : th ∈ gT := h3 th List.mem_cons_self
            refine ⟨th, CT, dxT, vn, vk, vv, h1, m1, m2, dk, fun d e => by subst e; cases o3 with | fz q => exact q, tin, fun v d hv => ?_⟩
            have tg := w.tgT th tin
            have ku : ∀ b, b ≠ th → ∀ o, H b = some o → upd H th (.ins CT dxT [("name", vn), ("kind", vk), ("value", v)]) b = some o := fun b hb o h => by rw [upd_ne hb]; exact h
            have kt : ∀ (b : Addr) (m : Nat), m ≠ 3 → tag b = m → b ≠ th := fun b m h1 h2 z => by rw [z, tg] at h2; exact h1 h2.symm
            have thf : th ∉ f1 := fun z => m4 (List.mem_append_left _ z)
            have child : OTR K mg (upd H th (.ins CT dxT [("name", vn), ("kind", vk), ("value", v)])) F (.ref th) (thO nm k ks (.fz d)) (th :: (f1 ++ ([] ++ ([] ++ [])))) := by
              refine .ins upd_same m2 (.cons (o1.keep (Same.refl _) fun b hb => ku b fun z => thf (by rw [← z]; exact hb)) (.cons (.fz dk) (.cons (.fz hv) .nil fun _ z => nomatch z) fun _ z => nomatch z) fun _ _ z => ?_) ?_
              · simp at z
              · simpa using thf
            obtain ⟨gT', q1, q2⟩ := h4 (upd H th (.ins CT dxT [("name", vn), ("kind", vk), ("value", v)])) F _ _ (Same.refl _) (fun b hb hn => ku b fun z => hn (by rw [z]; exact List.mem_cons_self)) child (fun b hb => .inl (by
              simp only [List.append_nil, List.mem_cons] at hb
              rcases hb with rfl | hb
              · exact List.mem_cons_self
              · exact List.mem_cons_of_mem _ (List.mem_append_left _ hb)))
            have sub : ∀ b ∈ gT', b ∈ gT := fun b hb => by
              rcases q2 b hb with y | ⟨y, _⟩
              · simp only [List.append_nil, List.mem_cons] at y
                rcases y with rfl | y
                · exact tin
                · exact h3 b (List.mem_cons_of_mem _ (List.mem_append_left _ y))
              · exact y
            refine ⟨gT', ⟨w.slot, ku a (kt a 0 (by decide) w.ta) _ w.obj, w.cls, ku lT (kt lT 1 (by decide) w.tT) _ w.oT, w.zT, q1, ku lB (kt lB 2 (by decide) w.tB) _ w.oB, w.zB, w.rB.keep (Same.refl _) fun b hb => ku b (kt b 4 (by decide) (w.tgB b hb)),
              w.rX.keep (Same.refl _) fun b hb => ku b (kt b 5 (by decide) (w.tgX b hb)), w.env.keep (Same.refl _) fun b hb => ku b (kt b 6 (by decide) (w.tr b hb)), fun b o h => ?_, fun b hb => w.own b ?_, w.ta, w.tT, w.tB, fun b hb => w.tgT b (sub b hb), w.tgB, w.tgX, w.tr⟩, sub⟩
            · refine ku b (fun z => ?_) o (w.le b o h)
              rw [z, w.own th (.inr (.inr (.inr (.inl tin))))] at h; cases h
            · rcases hb with h | h | h | h | h | h | h
              · exact .inl h
              · exact .inr (.inl h)
              · exact .inr (.inr (.inl h))
              · exact .inr (.inr (.inr (.inl (sub b h))))
              · exact .inr (.inr (.inr (.inr (.inl h))))
              · exact .inr (.inr (.inr (.inr (.inr (.inl h)))))
              · exact .inr (.inr (.inr (.inr (.inr (.inr h)))))
end
end Rx
end

section
/-! Rx, part 26: World.read, World.write, as they do. -/
namespace Rx
open PySem PySem.Spec PyProof.Rows L2
section
variable {X : Cx} {W : WX} {k : Nat} {P : Nat → Bool}
abbrev tThing (K : PySem.W.Frag) (mg : Str → Option Value) (jt : Nat) : TS := tAsg (tPath K mg 0 [.f ["World"] "things", .v 1]) (gName jt)
abbrev tBare (K : PySem.W.Frag) (mg : Str → Option Value) (jt c : Nat) : TT := tTest (tOp (R2D K mg (bl2 ninD)) (tC (.str (strOf [c]))) (tPath K mg jt [.f ["Thing"] "kind", .c 0]))
abbrev tBreach (K : PySem.W.Frag) (mg : Str → Option Value) (c : Nat) : TS := tDrop (tBM K "list" rAppend (tPath K mg 0 [.f ["World"] "breaches"]) (tCons (tTup (tCons (tC (.str (strOf [c]))) (tCons (tVar 1) tNil))) tNil))
theorem len0 (f : Str) (v : V) (r : List (Str × V)) : ((f, v) :: r).lookup f = some v := by rw [List.lookup_cons, beq_self_eq_true]
/-- what read and write do alike -/
theorem mid {K : PySem.W.Frag} {mg : Str → Option Value} {H F : Hp} {σ : L2.St} {e : Ev} {fp : List Addr} {ts bs : List OT} {x nm vl : OT} {i : Int} {n c jt : Nat} {kk : List Nat} {ks : List D} {D : Ends} (hc : c < 0x110000)
    (s : SS K mg H F σ e fp) (hj : e.at 0 = some (wO ts bs x)) (hi : e.at 1 = some (.fz (.int i))) (hn : plc ts.length i = some n) (ht : ts[n]? = some (thO nm kk ks vl)) (hb : bs.length < sizeMax) (h2 : 2 ≤ jt) (hl : jt < σ.length)
    (cont : ∀ (H3 F3 : Hp) (th a C dx lT lB : Addr) (vsT vsB : List V) (vX : V) (gT gB gX rest : List Addr) (tag : Addr → Nat), vsT[n]? = some (.ref th) →
      WO K mg H3 F3 (σ.set jt (some (.ref th))) (e.set jt none) ts (brk c i kk bs) x a C dx lT lB vsT vsB vX gT gB gX rest tag → Stp H F fp H3 F3 (wL a lT lB gT gB gX rest) → D.nx (σ.set jt (some (.ref th))) H3) :
    tSeq (tThing K mg jt) (tIfS (tBare K mg jt c) (tBreach K mg c) tNext) D σ H := by
  obtain ⟨a, C, dx, lT, lB, vsT, vsB, vX, gT, gB, gX, rest, tag, w, hsub⟩ := s.world hj
  obtain ⟨th, CT, dxT, vn, vk, vv, hv1, hth, hCT, dk, _, hthg, _⟩ := w.value ht
  have hσ1 : σ[1]? = some (some (.int i)) := s.vars _ _ hi
  have hlenT := w.rT.len
  refine ⟨.ref a, .ref th, w.slot, .cons (.f w.obj (List.mem_singleton.mpr rfl) w.cls (len0 _ _ _)) (.cons (.v hσ1 (.inl (SqL.of w.oT)) (by rw [hlenT]; exact hn) hv1) .nil), ?_⟩
  show tIfS (tBare K mg jt c) (tBreach K mg c) tNext D (σ.set jt (some (.ref th))) H
  generalize hσ : σ.set jt (some (.ref th)) = σ1
  have hs0 : σ1[0]? = some (some (.ref a)) := by rw [← hσ, List.getElem?_set_ne (by omega)]; exact w.slot
  have hs1 : σ1[1]? = some (some (.int i)) := by rw [← hσ, List.getElem?_set_ne (by omega)]; exact hσ1
  have hst : σ1[jt]? = some (some (.ref th)) := by rw [← hσ, List.getElem?_set_self hl]
  obtain ⟨rest1, env1, hr1⟩ := w.env.drop jt (some (.ref th))
  have w1 : WO K mg H F σ1 (e.set jt none) ts bs x a C dx lT lB vsT vsB vX gT gB gX rest1 tag := ⟨hs0, w.obj, w.cls, w.oT, w.zT, w.rT, w.oB, w.zB, w.rB, w.rX, by
    rw [hσ] at env1
    rw [List.set_comm _ _ (by omega)]; exact env1, w.le, fun b hb => w.own b (by
      rcases hb with h | h | h | h | h | h | h
      · exact .inl h
      · exact .inr (.inl h)
      · exact .inr (.inr (.inl h))
      · exact .inr (.inr (.inr (.inl h)))
      · exact .inr (.inr (.inr (.inr (.inl h))))
      · exact .inr (.inr (.inr (.inr (.inr (.inl h)))))
      · exact .inr (.inr (.inr (.inr (.inr (.inr (hr1 b h))))))), w.ta, w.tT, w.tB, w.tgT, w.tgB, w.tgX, fun b hb => w.tr b (hr1 b hb)⟩
  have sub1 : ∀ b ∈ wL a lT lB gT gB gX rest1, b ∈ fp := fun b hb => hsub b (by
    rw [wL_mem] at hb ⊢
    rcases hb with h | h | h | h | h | h | h
    · exact .inl h
    · exact .inr (.inl h)
    · exact .inr (.inr (.inl h))
    · exact .inr (.inr (.inr (.inl h)))
    · exact .inr (.inr (.inr (.inr (.inl h))))
    · exact .inr (.inr (.inr (.inr (.inr (.inl h)))))
    · exact .inr (.inr (.inr (.inr (.inr (.inr (hr1 b h)))))))
  have st1 : Stp H F fp H F (wL a lT lB gT gB gX rest1) := Stp.refl.sub sub1
  have cc : ∀ (H3 F3 : Hp) (vsB' : List V), WO K mg H3 F3 σ1 (e.set jt none) ts (brk c i kk bs) x a C dx lT lB vsT vsB' vX gT gB gX rest1 tag → Stp H F fp H3 F3 (wL a lT lB gT gB gX rest1) → D.nx σ1 H3 := fun H3 F3 vsB' => by
    have := cont H3 F3 th a C dx lT lB vsT vsB' vX gT gB gX rest1 tag hv1
    rw [hσ] at this; exact this
  have hzc : DR K mg F (.str (strOf [c])) (.str [c]) := .str (by show 1 ≤ sizeLine; rw [sizeLine_eq]; omega) fun d hd => by
    have : d = c := by simpa using hd
    rw [this]; exact hc
  cases dk with
  | tup hq hz r =>
    rename_i at_ vs
    cases r with
    | cons r0 rr =>
      rename_i v0 vs0
      refine ⟨.ref th, v0, hst, .cons (.f hth (List.mem_singleton.mpr rfl) hCT (by rw [List.lookup_cons, show (("kind" : Str) == "name") = false by decide]; exact len0 _ _ _)) (.cons (.c (.inr (Same.seqT w.le hq)) (k := 0) (by rfl) rfl) .nil), ?_⟩
      refine ⟨F, .str [c], .str kk, .fz (.bl (!decide (c ∈ kk))), w.le, .fz hzc, .fz r0, by simp [bl2, ninD, inD], fun v H' F' fpv st le o ow => ?_⟩
      cases o with
      | fz db =>
        cases db
        refine ⟨_, rfl, ?_⟩
        have w2 := w1.mono st le
        have st2 : Stp H F fp H' F' (wL a lT lB gT gB gX rest1) := by
          have := st1.trans (st.frame (gp := wL a lT lB gT gB gX rest1))
          simpa using this
        show (if (!decide (c ∈ kk)) = true then tBreach K mg c D σ1 H' else tNext D σ1 H')
        by_cases hm : c ∈ kk
        · rw [if_neg (by simp [hm])]
          have e1 : brk c i kk bs = bs := if_pos hm
          have := cc H' F' vsB
          rw [e1] at this
          exact this w2 st2
        · rw [if_pos (by simp [hm])]
          have e1 : brk c i kk bs = bs ++ [.fz (.tup [.str [c], .int i])] := if_neg hm
          refine ⟨.ref a, .ref lB, hs0, .cons (.f w2.obj (List.mem_singleton.mpr rfl) w2.cls (by rw [List.lookup_cons, show (("breaches" : Str) == "things") = false by decide]; exact len0 _ _ _)) .nil, tyL w2.oB, .int i, hs1, (show 2 ≤ sizeLine by rw [sizeLine_eq]; omega), fun p hp => ?_⟩
          have st3 : Stp H' F' [] (upd H' p (.tup [.str (strOf [c]), .int i])) (upd F' p (.tup [.str (strOf [c]), .int i])) [] := Stp.newF hp w2.le
          have w3 := w2.mono st3 (same_upd2 w2.le)
          have hzB : vsB.length < sizeLine := by rw [w3.rB.len, ← sizeMax_eq]; exact hb
          refine ⟨lB, vsB, .ref p, rfl, rfl, w3.oB, hzB, ?_⟩
          have w4 := w3.breach (v := .ref p) (d := .tup [.str [c], .int i]) (.tup (SqT.of upd_same) (show 2 ≤ sizeLine by rw [sizeLine_eq]; omega) (.cons ((hzc.mono st.fz).mono st3.fz) (.cons (.int i) .nil))) hzB
          have st4 : Stp H F fp (upd H' p (.tup [.str (strOf [c]), .int i])) (upd F' p (.tup [.str (strOf [c]), .int i])) (wL a lT lB gT gB gX rest1) := by
            have := st2.trans (st3.frame (gp := wL a lT lB gT gB gX rest1))
            simpa using this
          have := cc (upd (upd H' p (.tup [.str (strOf [c]), .int i])) lB (.lst (vsB ++ [.ref p]))) (upd F' p (.tup [.str (strOf [c]), .int i])) (vsB ++ [.ref p])
          rw [e1] at this
          refine this w4 (st4.trans (Stp.wrs (g := [lB]) (fun b hb => ?_) fun b hb o h => ?_))
          · have : b = lB := by simpa using hb
            rw [this]; exact wL_mem.mpr (.inr (.inr (.inl rfl)))
          · rw [upd_ne (fun z => hb (by rw [z]; exact List.mem_cons_self))]; exact h
/-- World.read -/
theorem ss_read {st1 st2 : Stmt} {e4 : Expr} {pos : Pos} (hP : P 2 = false) (h1 : PS X st1 (tThing X.K X.mg 2)) (h2 : PS X st2 (tIfS (tBare X.K X.mg 2 114) (tBreach X.K X.mg 114) tNext)) (h4 : PE X e4 (tPath X.K X.mg 2 [.f ["Thing"] "value"])) :
    JSs X W P [.hk readS] [st1, st2, .Return (some e4) pos] := by
  refine PSs.imp (pss_cons h1 (pss_cons h2 (pss_one (ps_ret h4)))) fun D σ H h => ?_
  obtain ⟨F, en, fp, s, h⟩ := h
  have h : WS X.K X.mg W P D H F fp σ ((match readS en with
    | none => .bad
    | some (none, e') => .nx e'
    | some (some t, e') => .ret t e' : SR).sq (run [])) := h
  cases hr : readS en with
  | none => rw [hr] at h; exact h.elim
  | some r =>
    rw [hr] at h
    cases readS_some hr with
    | @mk ts bs x nm i n kk ks vd s2 hn ht hb =>
      have h : WS X.K X.mg W P D H F fp σ (.ret (.fz vd) [some (wO ts (brk 114 i kk bs) x), some (.fz (.int i)), none]) := h
      have hlen : σ.length = 3 := by rw [s.env.length]; rfl
      show tSeq (tThing X.K X.mg 2) (tSeq (tIfS (tBare X.K X.mg 2 114) (tBreach X.K X.mg 114) tNext) (tRet (tPath X.K X.mg 2 [.f ["Thing"] "value"]))) D σ H
      refine mid (D := { D with nx := (tRet (tPath X.K X.mg 2 [.f ["Thing"] "value"])) D }) (c := 114) (by decide) s rfl rfl hn ht hb (Nat.le_refl _) (by omega) fun H3 F3 th a C dx lT lB vsT vsB vX gT gB gX rest tag hv w st => ?_
      obtain ⟨th', CT, dxT, vn, vk, vv, hv1, hth, hCT, dk, hvv, hthg, _⟩ := w.value ht
      rw [hv] at hv1
      cases hv1
      refine ⟨.ref th, vv, by rw [List.getElem?_set_self (by omega)], .cons (.f hth (List.mem_singleton.mpr rfl) hCT (by
        rw [List.lookup_cons, show (("value" : Str) == "name") = false by decide, List.lookup_cons, show (("value" : Str) == "kind") = false by decide]; exact len0 _ _ _)) .nil, ?_⟩
      obtain ⟨fp', q1, q2⟩ := w.close
      refine h vv _ H3 F3 fp' [] ⟨st.sub fun b hb => q2 b (by simpa using hb), q1, .fz (hvv _ rfl), nm', nm'⟩ (Pr.set hP)
  where nm' {p : Addr → Prop} : ∀ a ∈ ([] : List Addr), p a := fun _ z => nomatch z
/-- World.write -/
theorem ss_write {st1 st2 st3 : Stmt} (hP : P 3 = false) (hT : HasC X.K X.mg "Thing" ["value"]) (h1 : PS X st1 (tThing X.K X.mg 3)) (h2 : PS X st2 (tIfS (tBare X.K X.mg 3 119) (tBreach X.K X.mg 119) tNext)) (h4 : PS X st3 (sFld X.K (tVar 3) (tVar 2) "value")) :
    JSs X W P [.hk writeS] [st1, st2, st3] := by
  refine PSs.imp (pss_cons h1 (pss_cons h2 (pss_one h4))) fun D σ H h => ?_
  obtain ⟨F, en, fp, s, h⟩ := h
  have h : WS X.K X.mg W P D H F fp σ ((match writeS en with
    | none => .bad
    | some (none, e') => .nx e'
    | some (some t, e') => .ret t e' : SR).sq (run [])) := h
  cases hr : writeS en with
  | none => rw [hr] at h; exact h.elim
  | some r =>
    rw [hr] at h
    cases writeS_some hr with
    | @mk ts bs x nm vl i n kk ks vd s2 hn ht hb =>
      have h : WS X.K X.mg W P D H F fp σ (.nx [some (wO (ts.set n (thO nm kk ks (.fz vd))) (brk 119 i kk bs) x), some (.fz (.int i)), some (.fz vd), none]) := h
      have hlen : σ.length = 4 := by rw [s.env.length]; rfl
      obtain ⟨v2, g2, hv2, o2, _⟩ := s.env.at (j := 2) (t := .fz vd) rfl
      have dv2 : DR X.K X.mg F v2 vd := by cases o2 with | fz q => exact q
      show tSeq (tThing X.K X.mg 3) (tSeq (tIfS (tBare X.K X.mg 3 119) (tBreach X.K X.mg 119) tNext) (sFld X.K (tVar 3) (tVar 2) "value")) D σ H
      refine mid (D := { D with nx := (sFld X.K (tVar 3) (tVar 2) "value") D }) (c := 119) (by decide) s rfl rfl hn ht hb (by decide) (by omega) fun H3 F3 th a C dx lT lB vsT vsB vX gT gB gX rest tag hv w st => ?_
      obtain ⟨th', CT, dxT, vn, vk, vv, hv1, hth, hCT, dk, hvv, hthg, hput⟩ := w.value ht
      rw [hv] at hv1
      cases hv1
      obtain ⟨gT', w5, hsub⟩ := hput v2 vd (dv2.mono st.fz)
      obtain ⟨C', hC', cl, no⟩ := hT.ex
      have hC2 := hC'.symm.trans hCT
      cases hC2
      refine ⟨v2, by rw [List.getElem?_set_ne (by omega)]; exact hv2, .ref th, by rw [List.getElem?_set_self (by omega)], th, CT, dxT, _, rfl, hth, cl, no "value" (List.mem_singleton.mpr rfl), (by show (3 : Nat) < 1000; decide), ?_⟩
      have ep : putF ("value" : Str) v2 [("name", vn), ("kind", vk), ("value", vv)] = ([("name", vn), ("kind", vk), ("value", v2)] : List (Str × V)) := by
        simp only [putF, if_neg (show ¬ (("name" : Str) = "value") by decide), if_neg (show ¬ (("kind" : Str) = "value") by decide), if_true]
      rw [ep]
      obtain ⟨fp', q1, q2⟩ := w5.close
      refine h _ _ F3 fp' ((st.trans (Stp.wrs (g := [th]) (fun b hb => ?_) fun b hb o h => ?_)).sub fun b hb => ?_) q1 (Pr.set hP)
      · have : b = th := by simpa using hb
        rw [this]; exact wL_mem.mpr (.inr (.inr (.inr (.inl hthg))))
      · rw [upd_ne (fun z => hb (by rw [z]; exact List.mem_cons_self))]; exact h
      · have := q2 b hb
        rw [wL_mem] at this ⊢
        rcases this with h | h | h | h | h | h | h
        · exact .inl h
        · exact .inr (.inl h)
        · exact .inr (.inr (.inl h))
        · exact .inr (.inr (.inr (.inl (hsub b h))))
        · exact .inr (.inr (.inr (.inr (.inl h))))
        · exact .inr (.inr (.inr (.inr (.inr (.inl h)))))
        · exact .inr (.inr (.inr (.inr (.inr (.inr h)))))
end
end Rx
namespace Rx
open PySem PySem.Spec PyProof.Rows L2
theorem pe_strC {X : Cx} {z : Str} {c : Nat} {j : Nat} {pos : Pos} (h : z = strOf [c] := by rfl) : PE X (.Constant (.str z) j pos) (tC (.str (strOf [c]))) := by subst h; exact pe_str
end Rx
end

section
/-! Rx, laws: how the evaluator goes. -/
namespace Rx
open PySem
@[simp] theorem Ev.at_zero (o : Slot) (e : Ev) : Ev.at (o :: e) 0 = o := rfl
@[simp] theorem Ev.at_succ (o : Slot) (e : Ev) (n : Nat) : Ev.at (o :: e) (n + 1) = Ev.at e n := rfl
@[simp] theorem R.bind_ok {α β : Type} (a : α) (e : Ev) (f : α → Ev → R β) : (R.ok a e).bind f = f a e := rfl
@[simp] theorem R.bind_bad {α β : Type} (f : α → Ev → R β) : (R.bad : R α).bind f = .bad := rfl
@[simp] theorem M.lift_app {α : Type} (a : α) (e : Ev) : M.lift (some a) e = .ok a e := rfl
@[simp] theorem OT.view_fz (d : D) : OT.view (.fz d) = d := rfl
@[simp] theorem OT.view_lst (d : List OT) : OT.view (.lst d) = .lst (OT.views d) := rfl
@[simp] theorem OT.views_nil : OT.views [] = [] := rfl
@[simp] theorem OT.views_cons (d : OT) (ds : List OT) : OT.views (d :: ds) = d.view :: OT.views ds := rfl
@[simp] theorem OT.flat_fz (d : D) : OT.flat (.fz d) = some d := rfl
@[simp] theorem OT.flat_lst (d : List OT) : OT.flat (.lst d) = (allFz d).map .lst := rfl
@[simp] theorem OT.flat_ml (d : List D) : OT.flat (.lst (d.map .fz)) = some (.lst d) := by simp [-R.bind]
@[simp] theorem allFz_nil : allFz [] = some [] := rfl
@[simp] theorem allFz_cons (d : D) (ds : List OT) : allFz (.fz d :: ds) = (allFz ds).map (d :: ·) := rfl
@[simp] theorem semV (j : Nat) : (sem (.var j)).1 = M.read j := rfl
@[simp] theorem semMv (j : Nat) : (sem (.mv j)).1 = M.move j := rfl
@[simp] theorem semC (c : D) : (sem (.con c)).1 = M.pure (.fz c) := rfl
@[simp] theorem semG (x : Str) (c : D) : (sem (.glo x c)).1 = M.pure (.fz c) := rfl
@[simp] theorem semTup (es : List IE) : (sem (.tup es)).1 = M.bind (evs es) fun ts => M.pure (.fz (.tup (OT.views ts))) := rfl
@[simp] theorem semLst (es : List IE) : (sem (.lst es)).1 = M.bind (evs es) fun ts => M.pure (.lst ts) := rfl
@[simp] theorem semD : (sem .dnew).1 = M.pure (.dic []) := rfl
@[simp] theorem semFz (a : IE) : (sem (.fzz a)).1 = M.bind (sem a).1 fun t => M.pure (.fz t.view) := rfl
@[simp] theorem semB (o : Operator) (g : D → D → Option OT) (a b : IE) : (sem (.bop o g a b)).1 = op2M a b (sem a).1 (sem b).1 fun x y _ => M.lift (g x y) := rfl
@[simp] theorem semCmp (o : CmpOp) (g : D → D → Option Bool) (a b : IE) : (sem (.cmp o g a b)).1 = op2M a b (sem a).1 (sem b).1 fun x y _ => blM (g x y) := rfl
@[simp] theorem tstCmp (o : CmpOp) (g : D → D → Option Bool) (a b : IE) : (sem (.cmp o g a b)).2 = op2M a b (sem a).1 (sem b).1 fun x y _ => M.lift (g x y) := rfl
@[simp] theorem semU (o : UnaryOp) (g : D → Option D) (a : IE) : (sem (.uop o g a)).1 = uopM g a (sem a).1 := rfl
@[simp] theorem semIx (a b : IE) : (sem (.ix a b)).1 = op2M a b (sem a).1 (sem b).1 fun x y _ => M.bind (M.lift (ixK x y)) fun d => M.pure (.fz d) := rfl
@[simp] theorem semSl (a : IE) (lo hi : Option IE) : (sem (.sl a lo hi)).1 = M.bind (opd a (sem a).1) fun ra => M.bind (evOpt lo) fun l => M.bind (evOpt hi) fun h => M.bind (fin a ra) fun x => M.lift (slD x l h) := rfl
@[simp] theorem semIf (c a b : IE) : (sem (.ife c a b)).1 = M.bind (sem c).2 fun k => pickB k (sem a).1 (sem b).1 := by
  show (M.bind (sem c).2 fun k => (match k with
    | true => (sem a).1
    | false => (sem b).1)) = _
  congr 1; funext b; cases b <;> rfl
@[simp] theorem pickB_app {α β : Type} (b : Bool) (f g : α → β) (e : α) : pickB b f g e = pickB b (f e) (g e) := by cases b <;> rfl
theorem pb_bind {α β : Type} (b : Bool) (x y : R α) (f : α → Ev → R β) : (pickB b x y).bind f = pickB b (x.bind f) (y.bind f) := by cases b <;> rfl
theorem pb_st {α : Type} (b : Bool) (x y : R α) (f : α → Ev → SR) : (pickB b x y).st f = pickB b (x.st f) (y.st f) := by cases b <;> rfl
theorem pb_sq (b : Bool) (x y : SR) (f : Ev → SR) : (pickB b x y).sq f = pickB b (x.sq f) (y.sq f) := by cases b <;> rfl
theorem pb_lp (b : Bool) (x y : SR) (f : Ev → SR) : (pickB b x y).lp f = pickB b (x.lp f) (y.lp f) := by cases b <;> rfl
theorem pb_end (ms : List Bool) (b : Bool) (x y : SR) : endOf ms (pickB b x y) = pickB b (endOf ms x) (endOf ms y) := by cases b <;> rfl
theorem if_bind {α β : Type} (p : Prop) [Decidable p] (x y : R α) (f : α → Ev → R β) : (if p then x else y).bind f = if p then x.bind f else y.bind f := by split <;> rfl
theorem if_st {α : Type} (p : Prop) [Decidable p] (x y : R α) (f : α → Ev → SR) : (if p then x else y).st f = if p then x.st f else y.st f := by split <;> rfl
theorem if_sq (p : Prop) [Decidable p] (x y : SR) (f : Ev → SR) : (if p then x else y).sq f = if p then x.sq f else y.sq f := by split <;> rfl
theorem if_lp (p : Prop) [Decidable p] (x y : SR) (f : Ev → SR) : (if p then x else y).lp f = if p then x.lp f else y.lp f := by split <;> rfl
theorem if_end (p : Prop) [Decidable p] (ms : List Bool) (x y : SR) : endOf ms (if p then x else y) = if p then endOf ms x else endOf ms y := by split <;> rfl
@[simp] theorem semCall (x : Str) (ms : List Bool) (f : Fn) (es : List IE) : (sem (.call x ms f es)).1 = M.bind (evArgs ms es) fun as => callF f as := rfl
@[simp] theorem semBi (x : Str) (g : List D → Option OT) (es : List IE) : (sem (.bi x g es)).1 = M.bind (evOps es) fun rs => M.bind (fins es rs) fun ds => M.lift (g ds) := rfl
@[simp] theorem semMe (m : Str) (g : D → List D → Option OT) (a : IE) (es : List IE) : (sem (.me m g a es)).1 = M.bind (opd a (sem a).1) fun ra => M.bind (evOps es) fun rs => M.bind (fin a ra) fun x => M.bind (fins es rs) fun ds => M.lift (g x ds) := rfl
@[simp] theorem semNt (x : IE) : (sem (.nt x)).1 = M.bind (truthM x (sem x).1) fun b => M.pure (.fz (.bl (!b))) := rfl
@[simp] theorem tstNt (x : IE) : (sem (.nt x)).2 = M.bind (sem x).2 fun b => M.pure (!b) := rfl
@[simp] theorem semAnd (es : List IE) : (sem (.und es)).1 = evAnd es := rfl
@[simp] theorem tstAnd' (es : List IE) : (sem (.und es)).2 = tstAnd es := rfl
@[simp] theorem semOr (es : List IE) : (sem (.orr es)).1 = evOr es := rfl
@[simp] theorem tstOr' (es : List IE) : (sem (.orr es)).2 = tstOr es := rfl
@[simp] theorem semLc (tg : TGt) (k : ITK) (its : List IE) (c : Option IE) (x : IE) (own : List Nat) : (sem (.lc tg k its c x own)).1 = M.bind (evs its) fun ts => M.bind (M.lift (itemsOf k (OT.views ts))) fun xs => lcRun own tg (semOpt c) (sem x).1 xs := rfl
@[simp] theorem tstCall (x : Str) (ms : List Bool) (f : Fn) (es : List IE) : (sem (.call x ms f es)).2 = truthM (.call x ms f es) (sem (.call x ms f es)).1 := rfl
@[simp] theorem tstBi (x : Str) (g : List D → Option OT) (es : List IE) : (sem (.bi x g es)).2 = truthM (.bi x g es) (sem (.bi x g es)).1 := rfl
@[simp] theorem tstMe (m : Str) (g : D → List D → Option OT) (a : IE) (es : List IE) : (sem (.me m g a es)).2 = truthM (.me m g a es) (sem (.me m g a es)).1 := rfl
@[simp] theorem tstV (j : Nat) : (sem (.var j)).2 = truthM (.var j) (sem (.var j)).1 := rfl
@[simp] theorem tstIx (a b : IE) : (sem (.ix a b)).2 = truthM (.ix a b) (sem (.ix a b)).1 := rfl
@[simp] theorem tstB (o : Operator) (g : D → D → Option OT) (a b : IE) : (sem (.bop o g a b)).2 = truthM (.bop o g a b) (sem (.bop o g a b)).1 := rfl
@[simp] theorem evs_nil : evs [] = M.pure [] := rfl
@[simp] theorem evs_cons (x : IE) (r : List IE) : evs (x :: r) = M.bind (sem x).1 fun t => M.bind (evs r) fun ts => M.pure (t :: ts) := rfl
@[simp] theorem evOps_nil : evOps [] = M.pure [] := rfl
@[simp] theorem evOps_cons (x : IE) (r : List IE) : evOps (x :: r) = M.bind (opd x (sem x).1) fun t => M.bind (evOps r) fun ts => M.pure (t :: ts) := rfl
@[simp] theorem evArgs_nil (ms : List Bool) : evArgs ms [] = M.pure [] := by cases ms <;> rfl
@[simp] theorem evArgs_cons (m : Bool) (ms : List Bool) (x : IE) (r : List IE) : evArgs (m :: ms) (x :: r) = M.bind (argOf m x (sem x).1) fun a => M.bind (evArgs ms r) fun as => M.pure (a :: as) := rfl
@[simp] theorem evOpt_none : evOpt none = M.pure none := rfl
@[simp] theorem evOpt_some (x : IE) : evOpt (some x) = M.bind (sem x).1 fun t => intK t.view := rfl
@[simp] theorem evAnd_one (x : IE) : evAnd [x] = (sem x).1 := rfl
@[simp] theorem evAnd_cons (x y : IE) (r : List IE) : evAnd (x :: y :: r) = M.bind (sem x).1 fun t => andK t.view (evAnd (y :: r)) := rfl
@[simp] theorem evOr_one (x : IE) : evOr [x] = (sem x).1 := rfl
@[simp] theorem evOr_cons (x y : IE) (r : List IE) : evOr (x :: y :: r) = M.bind (sem x).1 fun t => orK t.view (evOr (y :: r)) := rfl
@[simp] theorem tstAnd_nil : tstAnd [] = M.pure true := rfl
@[simp] theorem tstAnd_cons (x : IE) (r : List IE) : tstAnd (x :: r) = M.bind (sem x).2 fun b => pickB b (tstAnd r) (M.pure false) := by
  show (M.bind (sem x).2 fun b => (match b with
    | true => tstAnd r
    | false => M.pure false)) = _
  congr 1; funext b; cases b <;> rfl
@[simp] theorem tstOr_nil : tstOr [] = M.pure false := rfl
@[simp] theorem tstOr_cons (x : IE) (r : List IE) : tstOr (x :: r) = M.bind (sem x).2 fun b => pickB b (M.pure true) (tstOr r) := by
  show (M.bind (sem x).2 fun b => (match b with
    | false => tstOr r
    | true => M.pure true)) = _
  congr 1; funext b; cases b <;> rfl
@[simp] theorem semOpt_none : semOpt none = M.pure true := rfl
@[simp] theorem semOpt_some (x : IE) : semOpt (some x) = (sem x).2 := rfl
@[simp] theorem andK_bl (b : Bool) (m : M OT) : andK (.bl b) m = pickB b m (M.pure (.fz (.bl false))) := by cases b <;> rfl
@[simp] theorem orK_bl (b : Bool) (m : M OT) : orK (.bl b) m = pickB b (M.pure (.fz (.bl true))) m := by cases b <;> rfl
@[simp] theorem andK_t (m : M OT) : andK (.bl true) m = m := rfl
@[simp] theorem andK_f (m : M OT) : andK (.bl false) m = M.pure (.fz (.bl false)) := rfl
@[simp] theorem orK_t (m : M OT) : orK (.bl true) m = M.pure (.fz (.bl true)) := rfl
@[simp] theorem orK_f (m : M OT) : orK (.bl false) m = m := rfl
@[simp] theorem intK_int (i : Int) : intK (.int i) = M.pure (some i) := rfl
/-! ### statements -/
@[simp] theorem run_nil (e : Ev) : run [] e = .nx e := rfl
@[simp] theorem run_cons (s : IS) (ss : List IS) (e : Ev) : run (s :: ss) e = (run1 s e).sq (run ss) := rfl
@[simp] theorem run_asg (j : Nat) (x : IE) (e : Ev) : run1 (.asg j x) e = ((sem x).1 e).st fun t e1 => .nx (e1.set j (some t)) := rfl
@[simp] theorem run_asgT (tg : TGt) (x : IE) (e : Ev) : run1 (.asgT tg x) e = ((sem x).1 e).st fun t e1 => ofO (bindT tg t.view e1) := rfl
@[simp] theorem run_sto (j : Nat) (ss : List Wy) (k x : IE) (e : Ev) : run1 (.sto j ss k x) e = ((sem x).1 e).st fun t e1 => ((M.bind (M.get j) fun _ => M.bind (opd k (sem k).1) fun r => fin k r) e1).st fun d e2 => ofO (updAt j ss (stoO d t) e2) := rfl
@[simp] theorem run_app (j : Nat) (ss : List Wy) (x : IE) (e : Ev) : run1 (.app j ss x) e = lstAt j ss e (((sem x).1 e).st fun t e1 => ofO (updAt j ss (appO t) e1)) := rfl
@[simp] theorem run_ext (j : Nat) (ss : List Wy) (x : IE) (e : Ev) : run1 (.ext j ss x) e = lstAt j ss e (((sem x).1 e).st fun t e1 => extK t.view fun ds => ofO (updAt j ss (extO ds) e1)) := rfl
@[simp] theorem run_ex (x : IE) (e : Ev) : run1 (.ex x) e = ((sem x).1 e).st fun _ e1 => .nx e1 := rfl
@[simp] theorem run_ret (x : IE) (e : Ev) : run1 (.ret x) e = ((sem x).1 e).st fun t e1 => .ret t e1 := rfl
@[simp] theorem run_retN (e : Ev) : run1 .retN e = .ret (.fz .non) e := rfl
@[simp] theorem run_iff (c : IE) (a b : List IS) (e : Ev) : run1 (.iff c a b) e = ((sem c).2 e).st fun k e1 => pickB k (run a e1) (run b e1) := rfl
@[simp] theorem run_for (tg : TGt) (k : ITK) (its : List IE) (body : List IS) (e : Ev) : run1 (.for_ tg k its body) e = ((M.bind (evs its) fun ts => M.lift (itemsOf k (OT.views ts))) e).st fun xs e1 => forGo tg (run body) xs e1 := rfl
@[simp] theorem run_whl (n : Nat) (c : IE) (body : List IS) (e : Ev) : run1 (.whl n c body) e = whGo (sem c).2 (run body) n e := rfl
@[simp] theorem run_brk (e : Ev) : run1 .brk e = .brk e := rfl
@[simp] theorem run_cont (e : Ev) : run1 .cont e = .ct e := rfl
@[simp] theorem run_pass (e : Ev) : run1 .pass e = .nx e := rfl
@[simp] theorem bindT_nm (j : Nat) (d : D) (e : Ev) : bindT (.nm j) d e = some (e.set j (some (.fz d))) := rfl
@[simp] theorem pickB_dec {α : Type} {p : Prop} [Decidable p] (x y : α) : pickB (decide p) x y = if p then x else y := by
  by_cases h : p <;> simp [-R.bind, h]
@[simp] theorem pickB_not {α : Type} (b : Bool) (x y : α) : pickB (!b) x y = pickB b y x := by cases b <;> rfl
@[simp] theorem pickB_beqI {α : Type} (a b : Int) (x y : α) : pickB (a == b) x y = if a = b then x else y := by
  by_cases h : a = b
  · subst h; simp [-R.bind]
  · rw [if_neg h, show (a == b) = false by simpa using h]; rfl
@[simp] theorem pickB_beqS {α : Type} (a b : List Nat) (x y : α) : pickB (a == b) x y = if a = b then x else y := by
  by_cases h : a = b
  · subst h; simp [-R.bind]
  · rw [if_neg h, show (a == b) = false by simpa using h]; rfl
theorem plc_nat (n k : Nat) : plc n (k : Int) = if k < n then some k else none := rfl
@[simp] theorem getI_nat' {α : Type} (xs : List α) (k : Nat) : getI xs (k : Int) = xs[k]? := by
  unfold getI
  rw [plc_nat]
  by_cases h : k < xs.length
  · rw [if_pos h]
  · rw [if_neg h, List.getElem?_eq_none (by omega)]
@[simp] theorem getI_0 {α : Type} (xs : List α) : getI xs 0 = xs[0]? := getI_nat' xs 0
@[simp] theorem getI_1 {α : Type} (xs : List α) : getI xs 1 = xs[1]? := getI_nat' xs 1
@[simp] theorem getI_2 {α : Type} (xs : List α) : getI xs 2 = xs[2]? := getI_nat' xs 2
@[simp] theorem getI_3 {α : Type} (xs : List α) : getI xs 3 = xs[3]? := getI_nat' xs 3
@[simp] theorem getI_4 {α : Type} (xs : List α) : getI xs 4 = xs[4]? := getI_nat' xs 4
@[simp] theorem getI_5 {α : Type} (xs : List α) : getI xs 5 = xs[5]? := getI_nat' xs 5
@[simp] theorem getI_6 {α : Type} (xs : List α) : getI xs 6 = xs[6]? := getI_nat' xs 6
@[simp] theorem getI_7 {α : Type} (xs : List α) : getI xs 7 = xs[7]? := getI_nat' xs 7
@[simp] theorem ixK_lst (xs : List D) (i : Int) : ixK (.lst xs) (.int i) = getI xs i := rfl
@[simp] theorem ixK_lk (xs : List D) (i : Int) : ixK (.lk xs) (.int i) = getI xs i := rfl
@[simp] theorem ixK_tup (xs : List D) (i : Int) : ixK (.tup xs) (.int i) = getI xs i := rfl
@[simp] theorem ixK_str (xs : List Nat) (i : Int) : ixK (.str xs) (.int i) = (getI xs i).map fun c => .str [c] := rfl
@[simp] theorem stoO_1 (a b : OT) (x : OT) : stoO (.int 1) x (.lst [a, b]) = some (.lst [a, x]) := rfl
theorem mulD_l {i j : Int} (h : i.natAbs < 18446744073709551616) : mulD (.int i) (.int j) = some (.fz (.int (i * j))) := by
  exact if_pos (.inl h)
theorem mulD_r {i j : Int} (h : j.natAbs < 18446744073709551616) : mulD (.int i) (.int j) = some (.fz (.int (i * j))) := by
  exact if_pos (.inr h)
theorem fdivD_ok {i j : Int} (h : 0 < j ∧ j < 1073741824) : fdivD (.int i) (.int j) = some (.fz (.int (i / j))) := by
  exact if_pos h
@[simp] theorem inD_tup (a : D) (xs : List D) : inD a (.tup xs) = inSeq a xs := rfl
@[simp] theorem inD_lst (a : D) (xs : List D) : inD a (.lst xs) = inSeq a xs := rfl
@[simp] theorem inD_str (c : Nat) (y : List Nat) : inD (.str [c]) (.str y) = some (decide (c ∈ y)) := rfl
@[simp] theorem ninD_eq (a b : D) : ninD a b = (inD a b).map (!·) := rfl
theorem inSeq_ok {a : D} {xs : List D} (h1 : D.eqok 60 a = true) (h2 : D.eqoks 60 xs = true) : inSeq a xs = some (xs.any fun z => D.eqv z a) := if_pos ⟨h1, h2⟩
theorem eqD_ok {a b : D} (h1 : D.eqok 60 a = true) (h2 : D.eqok 60 b = true) : eqD a b = some (D.eqv a b) := if_pos ⟨h1, h2⟩
theorem neD_ok {a b : D} (h1 : D.eqok 60 a = true) (h2 : D.eqok 60 b = true) : neD a b = some (!D.eqv a b) := if_pos ⟨h1, h2⟩
@[simp] theorem eqD_bl (a b : Bool) : eqD (.bl a) (.bl b) = some (a == b) := rfl
@[simp] theorem eqD_int (a b : Int) : eqD (.int a) (.int b) = some (a == b) := rfl
@[simp] theorem eqD_str (a b : List Nat) : eqD (.str a) (.str b) = some (a == b) := rfl
@[simp] theorem neD_bl (a b : Bool) : neD (.bl a) (.bl b) = some (!(a == b)) := rfl
@[simp] theorem neD_int (a b : Int) : neD (.int a) (.int b) = some (!(a == b)) := rfl
@[simp] theorem neD_str (a b : List Nat) : neD (.str a) (.str b) = some (!(a == b)) := rfl
@[simp] theorem eqv_int (a b : Int) : D.eqv (.int a) (.int b) = (a == b) := rfl
@[simp] theorem eqv_str (a b : List Nat) : D.eqv (.str a) (.str b) = (a == b) := rfl
@[simp] theorem eqv_bl (a b : Bool) : D.eqv (.bl a) (.bl b) = (a == b) := rfl
@[simp] theorem isD_bl (a b : Bool) : isD (.bl a) (.bl b) = some (a == b) := rfl
@[simp] theorem nisD_bl (a b : Bool) : nisD (.bl a) (.bl b) = some (!(a == b)) := rfl
/-! ### loops -/
/-- behind a turn: I; a break goes on with k -/
def Lp (P : SR → Prop) (k : Ev → SR) (I : Ev → Prop) : SR → Prop
  | .nx e => I e
  | .ct e => I e
  | .brk e => P (k e)
  | .ret t e => P (.ret t e)
  | .exn x e => P (.exn x e)
  | .bad => False
@[simp] theorem Lp_nx (P : SR → Prop) (k : Ev → SR) (I : Ev → Prop) (e : Ev) : Lp P k I (.nx e) = I e := rfl
@[simp] theorem Lp_ct (P : SR → Prop) (k : Ev → SR) (I : Ev → Prop) (e : Ev) : Lp P k I (.ct e) = I e := rfl
@[simp] theorem Lp_brk (P : SR → Prop) (k : Ev → SR) (I : Ev → Prop) (e : Ev) : Lp P k I (.brk e) = P (k e) := rfl
@[simp] theorem Lp_ret (P : SR → Prop) (k : Ev → SR) (I : Ev → Prop) (t : OT) (e : Ev) : Lp P k I (.ret t e) = P (.ret t e) := rfl
theorem forGo_nil (tg : TGt) (body : Ev → SR) (e : Ev) : forGo tg body [] e = .nx e := rfl
theorem forGo_nm (j : Nat) (body : Ev → SR) (d : D) (ds : List D) (e : Ev) : forGo (.nm j) body (d :: ds) e = (body (e.set j (some (.fz d)))).lp (forGo (.nm j) body ds) := rfl
theorem forGo_rule {P : SR → Prop} {k : Ev → SR} {tg : TGt} {body : Ev → SR} {xs : List D} {e : Ev} (I : Nat → Ev → Prop) (h0 : I 0 e)
    (step : ∀ i d e, xs[i]? = some d → I i e → ∃ e1, bindT tg d e = some e1 ∧ Lp P k (I (i + 1)) (body e1)) (fin : ∀ e', I xs.length e' → P (k e')) : P ((forGo tg body xs e).sq k) := by
  have go : ∀ (ys : List D) (i : Nat) (e : Ev), xs.drop i = ys → i ≤ xs.length → I i e → P ((forGo tg body ys e).sq k) := by
    intro ys
    induction ys with
    | nil =>
      intro i e hd hi h
      have : i = xs.length := by have := congrArg List.length hd; rw [List.length_drop] at this; simp [-R.bind] at this; omega
      subst this
      exact fin e h
    | cons d ds ih =>
      intro i e hd hi h
      have hx : xs[i]? = some d := by
        have := congrArg (fun l => l[0]?) hd
        simpa [-R.bind, List.getElem?_drop] using this
      have hlt : i < xs.length := (List.getElem?_eq_some_iff.mp hx).1
      obtain ⟨e1, h1, h2⟩ := step i d e hx h
      have hd2 : xs.drop (i + 1) = ds := by
        have := congrArg List.tail hd
        rw [List.tail_drop] at this
        simpa [-R.bind] using this
      have e2 : forGo tg body (d :: ds) e = (body e1).lp (forGo tg body ds) := by
        show (match bindT tg d e with | none => _ | some e1 => _) = _
        rw [h1]
      rw [e2]
      cases hb : body e1 with
      | bad => rw [hb] at h2; exact h2.elim
      | nx e3 => rw [hb] at h2; exact ih (i + 1) e3 hd2 hlt h2
      | ct e3 => rw [hb] at h2; exact ih (i + 1) e3 hd2 hlt h2
      | brk e3 => rw [hb] at h2; exact h2
      | ret t e3 => rw [hb] at h2; exact h2
      | exn t e3 => rw [hb] at h2; exact h2
  exact go xs 0 e rfl (Nat.zero_le _) h0
@[simp] theorem sq_nil (r : SR) : r.sq (run []) = r := by cases r <;> rfl
@[simp] theorem sq_sq (r : SR) (k k' : Ev → SR) : (r.sq k).sq k' = r.sq fun e => (k e).sq k' := by cases r <;> rfl
theorem forGo_rule0 {P : SR → Prop} {tg : TGt} {body : Ev → SR} {xs : List D} {e : Ev} (I : Nat → Ev → Prop) (h0 : I 0 e)
    (step : ∀ i d e, xs[i]? = some d → I i e → ∃ e1, bindT tg d e = some e1 ∧ Lp P .nx (I (i + 1)) (body e1)) (fin : ∀ e', I xs.length e' → P (.nx e')) : P (forGo tg body xs e) := by
  have := forGo_rule (P := P) (k := run []) I h0 step fin
  rwa [sq_nil] at this
@[simp] theorem bind_bind {α β γ : Type} (r : R α) (f : α → Ev → R β) (g : β → Ev → R γ) : (r.bind f).bind g = r.bind fun a e => (f a e).bind g := by cases r <;> rfl
@[simp] theorem bind_st {α β : Type} (r : R α) (f : α → Ev → R β) (g : β → Ev → SR) : (r.bind f).st g = r.st fun a e => (f a e).st g := by cases r <;> rfl
theorem st_sq {α : Type} (r : R α) (f : α → Ev → SR) (k : Ev → SR) : (r.st f).sq k = r.st fun a e => (f a e).sq k := by cases r <;> rfl
/-! ### comprehensions over one name -/
theorem set_set_at (e : Ev) (j : Nat) (x : Slot) : (e.set j x).set j (e.at j) = e := by
  rw [List.set_set]
  apply List.ext_getElem?
  intro i
  rw [List.getElem?_set]
  by_cases h : j = i
  · subst h
    rw [if_pos rfl]
    by_cases h2 : j < e.length
    · rw [if_pos h2]; unfold Ev.at; rw [List.getD_eq_getElem?_getD, List.getElem?_eq_getElem h2]; rfl
    · rw [if_neg h2, List.getElem?_eq_none (by omega)]
  · rw [if_neg h]
theorem lc1_go {j : Nat} {mc : M Bool} {me : M OT} (I : Nat → List D → Ev → Prop) (xs : List D)
    (step : ∀ i d acc e, xs[i]? = some d → I i acc e → ∃ b e2, mc (e.set j (some (.fz d))) = .ok b e2 ∧ (b = true → ∃ t e3, me e2 = .ok t e3 ∧ I (i + 1) (acc ++ [t.view]) e3) ∧ (b = false → I (i + 1) acc e2)) :
    ∀ (ys : List D) (i : Nat) (acc : List D) (e : Ev), xs.drop i = ys → i ≤ xs.length → I i acc e → ∃ acc' e', lcGo [j] (.nm j) mc me ys acc e = .ok acc' e' ∧ I xs.length acc' e' := by
  intro ys
  induction ys with
  | nil =>
    intro i acc e hd hi h
    have : i = xs.length := by have := congrArg List.length hd; rw [List.length_drop] at this; simp [-R.bind] at this; omega
    subst this
    exact ⟨acc, e, rfl, h⟩
  | cons d ds ih =>
    intro i acc e hd hi h
    have hx : xs[i]? = some d := by
      have := congrArg (fun l => l[0]?) hd
      simpa [-R.bind, List.getElem?_drop] using this
    have hlt : i < xs.length := (List.getElem?_eq_some_iff.mp hx).1
    have hd2 : xs.drop (i + 1) = ds := by
      have := congrArg List.tail hd
      rw [List.tail_drop] at this
      simpa [-R.bind] using this
    obtain ⟨b, e2, h1, h2, h3⟩ := step i d acc e hx h
    have e0 : (e.set j none).set j (some (.fz d)) = e.set j (some (OT.fz d)) := List.set_set ..
    have eq : lcGo [j] (.nm j) mc me (d :: ds) acc e = (noX (mc (e.set j (some (.fz d))))).bind fun b e2 => pickB b ((noX (me e2)).bind fun t e3 => lcGo [j] (.nm j) mc me ds (acc ++ [t.view]) e3) (lcGo [j] (.nm j) mc me ds acc e2) := by
      rw [← e0]; rfl
    rw [eq, h1]
    cases b with
    | true =>
      obtain ⟨t, e3, k1, k2⟩ := h2 rfl
      obtain ⟨acc', e', q1, q2⟩ := ih (i + 1) _ e3 hd2 hlt k2
      exact ⟨acc', e', by simp [-R.bind, k1, q1], q2⟩
    | false =>
      obtain ⟨acc', e', q1, q2⟩ := ih (i + 1) _ e2 hd2 hlt (h3 rfl)
      exact ⟨acc', e', by simp [-R.bind, q1], q2⟩
theorem lc1_ok {j : Nat} {mc : M Bool} {me : M OT} (I : Nat → List D → Ev → Prop) {xs : List D} {e : Ev} (own : ownOk e [j] = true) (h0 : I 0 [] e)
    (step : ∀ i d acc e, xs[i]? = some d → I i acc e → ∃ b e2, mc (e.set j (some (.fz d))) = .ok b e2 ∧ (b = true → ∃ t e3, me e2 = .ok t e3 ∧ I (i + 1) (acc ++ [t.view]) e3) ∧ (b = false → I (i + 1) acc e2)) :
    ∃ acc' e', lcRun [j] (.nm j) mc me xs e = .ok (.ml acc') (e'.set j (e.at j)) ∧ I xs.length acc' e' := by
  obtain ⟨acc', e', h1, h2⟩ := lc1_go (j := j) (mc := mc) (me := me) I xs step xs 0 [] e rfl (Nat.zero_le _) h0
  refine ⟨acc', e', ?_, h2⟩
  unfold lcRun
  rw [own]
  show (lcGo [j] (.nm j) mc me xs [] e).bind _ = _
  rw [h1]
  show R.ok _ ((e'.set j none).set j (e.at j)) = _
  rw [List.set_set]
theorem lc1_rule {P : SR → Prop} {k : OT → Ev → SR} {j : Nat} {mc : M Bool} {me : M OT} (I : Nat → List D → Ev → Prop) {xs : List D} {e : Ev} (own : ownOk e [j] = true) (h0 : I 0 [] e)
    (step : ∀ i d acc e, xs[i]? = some d → I i acc e → ∃ b e2, mc (e.set j (some (.fz d))) = .ok b e2 ∧ (b = true → ∃ t e3, me e2 = .ok t e3 ∧ I (i + 1) (acc ++ [t.view]) e3) ∧ (b = false → I (i + 1) acc e2))
    (fin : ∀ acc e', I xs.length acc e' → P (k (.ml acc) (e'.set j (e.at j)))) : P ((lcRun [j] (.nm j) mc me xs e).st k) := by
  obtain ⟨acc, e', h1, h2⟩ := lc1_ok I own h0 step
  rw [h1]; exact fin acc e' h2
/-- what is yielded: Q -/
def Yd {α : Type} (r : R α) (Q : α → Ev → Prop) : Prop := ∃ a e, r = .ok a e ∧ Q a e
@[simp] theorem Yd_ok {α : Type} (a : α) (e : Ev) (Q : α → Ev → Prop) : Yd (.ok a e) Q = Q a e := by
  apply propext
  exact ⟨fun ⟨_, _, h, q⟩ => by cases h; exact q, fun q => ⟨_, _, rfl, q⟩⟩
/-- a comprehension's turns, by what holds behind each -/
theorem lcY {P : SR → Prop} {k : OT → Ev → SR} {j : Nat} {mc : M Bool} {me : M OT} (I : Nat → List D → Ev → Prop) {xs : List D} {e : Ev} (own : ownOk e [j] = true) (h0 : I 0 [] e)
    (step : ∀ i d acc e, xs[i]? = some d → I i acc e → Yd (mc (e.set j (some (.fz d)))) fun b e2 => pickB b (Yd (me e2) fun t e3 => I (i + 1) (acc ++ [t.view]) e3) (I (i + 1) acc e2))
    (fin : ∀ acc e', I xs.length acc e' → P (k (.ml acc) (e'.set j (e.at j)))) : P ((lcRun [j] (.nm j) mc me xs e).st k) := by
  refine lc1_rule I own h0 (fun i d acc e hd hi => ?_) fin
  obtain ⟨b, e2, h1, h2⟩ := step i d acc e hd hi
  refine ⟨b, e2, h1, fun hb => ?_, fun hb => ?_⟩
  · subst hb; exact h2
  · subst hb; exact h2
theorem lcYb {P : R OT → Prop} {j : Nat} {mc : M Bool} {me : M OT} (I : Nat → List D → Ev → Prop) {xs : List D} {e : Ev} (own : ownOk e [j] = true) (h0 : I 0 [] e)
    (step : ∀ i d acc e, xs[i]? = some d → I i acc e → Yd (mc (e.set j (some (.fz d)))) fun b e2 => pickB b (Yd (me e2) fun t e3 => I (i + 1) (acc ++ [t.view]) e3) (I (i + 1) acc e2))
    (fin : ∀ acc e', I xs.length acc e' → P (.ok (.ml acc) (e'.set j (e.at j)))) : P (lcRun [j] (.nm j) mc me xs e) := by
  obtain ⟨acc, e', h1, h2⟩ := lc1_ok I own h0 fun i d acc e hd hi => by
    obtain ⟨b, e2, h1, h2⟩ := step i d acc e hd hi
    refine ⟨b, e2, h1, fun hb => ?_, fun hb => ?_⟩
    · subst hb; exact h2
    · subst hb; exact h2
  rw [h1]; exact fin acc e' h2
theorem mkI {α : Type} (p : α → Prop) : ∃ I : α → Prop, ∀ a, I a ↔ p a := ⟨p, fun _ => Iff.rfl⟩
theorem mkI2 {α β : Type} (p : α → β → Prop) : ∃ I : α → β → Prop, ∀ a b, I a b ↔ p a b := ⟨p, fun _ _ => Iff.rfl⟩
theorem mkI3 {α β γ : Type} (p : α → β → γ → Prop) : ∃ I : α → β → γ → Prop, ∀ a b c, I a b c ↔ p a b c := ⟨p, fun _ _ _ => Iff.rfl⟩
/-- nothing is changed within -/
theorem lc1_map {j : Nat} {mc : M Bool} {me : M OT} {xs : List D} {e : Ev} (c : D → Bool) (g : D → OT) (own : ownOk e [j] = true) (hc : ∀ d ∈ xs, mc (e.set j (some (.fz d))) = .ok (c d) (e.set j (some (.fz d))))
    (he : ∀ d ∈ xs, c d = true → me (e.set j (some (.fz d))) = .ok (g d) (e.set j (some (.fz d)))) : lcRun [j] (.nm j) mc me xs e = .ok (.ml ((xs.filter c).map fun d => (g d).view)) e := by
  obtain ⟨acc, e', h1, h2, d', h3⟩ := lc1_ok (j := j) (mc := mc) (me := me) (xs := xs) (e := e) (fun i acc e' => acc = ((xs.take i).filter c).map (fun d => (g d).view) ∧ ∃ x, e' = e.set j x) own ⟨by simp [-R.bind], e.at j, by
    have := set_set_at e j none
    rw [List.set_set] at this; exact this.symm⟩ fun i d acc e' hd ⟨ha, x, hx⟩ => by
    subst hx
    have hm := List.mem_of_getElem? hd
    have ht : xs.take (i + 1) = xs.take i ++ [d] := by rw [List.take_add_one, hd]; rfl
    refine ⟨c d, e.set j (some (.fz d)), by rw [List.set_set]; exact hc d hm, fun hb => ⟨g d, e.set j (some (.fz d)), he d hm hb, ?_, _, rfl⟩, fun hb => ⟨?_, _, rfl⟩⟩
    · rw [ht, ha]; simp [-R.bind, hb]
    · rw [ht, ha]; simp [-R.bind, hb]
  rw [h1, h2, h3, set_set_at, List.take_length]
theorem lc1_map1 {j : Nat} {me : M OT} {xs : List D} {e : Ev} (g : D → OT) (own : ownOk e [j] = true) (he : ∀ d ∈ xs, me (e.set j (some (.fz d))) = .ok (g d) (e.set j (some (.fz d)))) :
    lcRun [j] (.nm j) (M.pure true) me xs e = .ok (.ml (xs.map fun d => (g d).view)) e := by
  have := lc1_map (j := j) (mc := M.pure true) (me := me) (xs := xs) (e := e) (fun _ => true) g own (fun _ _ => rfl) fun d hd _ => he d hd
  have e1 : xs.filter (fun _ => true) = xs := List.filter_eq_self.mpr fun _ _ => rfl
  rwa [e1] at this
/-- a statement goes on to Q -/
def Nx (r : SR) (Q : Ev → Prop) : Prop := ∃ e', r = .nx e' ∧ Q e'
@[simp] theorem Nx_nx (e : Ev) (Q : Ev → Prop) : Nx (.nx e) Q = Q e := by
  apply propext
  exact ⟨fun ⟨e', h, q⟩ => by cases h; exact q, fun q => ⟨e, rfl, q⟩⟩
theorem nx_imp {r : SR} {Q Q' : Ev → Prop} (h : Nx r Q) (f : ∀ e, Q e → Q' e) : Nx r Q' := by
  obtain ⟨e, h, q⟩ := h
  exact ⟨e, h, f e q⟩
/-- behind a statement that goes on to Q -/
theorem seqLp {P : SR → Prop} {KK k : Ev → SR} {I : Ev → Prop} {r : SR} (Q : Ev → Prop) (h : Nx r Q) (f : ∀ e, Q e → Lp P KK I (k e)) : Lp P KK I (r.sq k) := by
  obtain ⟨e, rfl, q⟩ := h
  exact f e q
theorem seqP {P : SR → Prop} {k : Ev → SR} {r : SR} (Q : Ev → Prop) (h : Nx r Q) (f : ∀ e, Q e → P (k e)) : P (r.sq k) := by
  obtain ⟨e, rfl, q⟩ := h
  exact f e q
theorem seqNx {k : Ev → SR} {R : Ev → Prop} {r : SR} (Q : Ev → Prop) (h : Nx r Q) (f : ∀ e, Q e → Nx (k e) R) : Nx (r.sq k) R := by
  obtain ⟨e, rfl, q⟩ := h
  exact f e q
/-- how a def ends -/
def Ends (ms : List Bool) (Q : OT → List Slot → Prop) (r : SR) : Prop := ∃ t o, endOf ms r = .ok t o ∧ Q t o
@[simp] theorem Ends_ret (ms : List Bool) (Q : OT → List Slot → Prop) (t : OT) (e : Ev) : Ends ms Q (.ret t e) = Q t (keepO ms e) := by
  apply propext
  exact ⟨fun ⟨t', o, h, q⟩ => by cases h; exact q, fun q => ⟨_, _, rfl, q⟩⟩
@[simp] theorem Ends_nx (ms : List Bool) (Q : OT → List Slot → Prop) (e : Ev) : Ends ms Q (.nx e) = Q (.fz .non) (keepO ms e) := by
  apply propext
  exact ⟨fun ⟨t', o, h, q⟩ => by cases h; exact q, fun q => ⟨_, _, rfl, q⟩⟩
theorem fn_ends {n : Nat} {ms : List Bool} {body : List IS} {as : List Slot} {Q : OT → List Slot → Prop} (h : Ends ms Q (run body (as ++ List.replicate (n - ms.length) none))) : ∃ t o, Def.fn ⟨n, ms, body⟩ as = .ok t o ∧ Q t o := h
theorem law_ends {n : Nat} {body : List IS} {as : List Slot} (h : Ends [false] (fun t _ => t = .fz (.bl true)) (run body (as ++ List.replicate (n - 1) none))) : ∃ o, Def.fn ⟨n, [false], body⟩ as = .ok (.fz (.bl true)) o := by
  obtain ⟨t, o, h1, rfl⟩ := fn_ends (ms := [false]) h
  exact ⟨o, h1⟩
theorem fn_def (n : Nat) (ms : List Bool) (body : List IS) (as : List Slot) : Def.fn ⟨n, ms, body⟩ as = endOf ms (run body (as ++ List.replicate (n - ms.length) none)) := rfl
@[simp] theorem endOf_nx (ms : List Bool) (e : Ev) : endOf ms (.nx e) = .ok (.fz .non) (keepO ms e) := rfl
@[simp] theorem endOf_ret (ms : List Bool) (t : OT) (e : Ev) : endOf ms (.ret t e) = .ok t (keepO ms e) := rfl
@[simp] theorem views_mapf {α : Type} (f : α → OT) (l : List α) : OT.views (l.map f) = l.map fun x => (f x).view := by
  induction l with
  | nil => rfl
  | cons x l ih => simp [-R.bind, ih]
@[simp] theorem allFz_comp {α : Type} (f : α → D) (l : List α) : allFz (l.map (OT.fz ∘ f)) = some (l.map f) := by
  induction l with
  | nil => rfl
  | cons x l ih => simp [-R.bind, ih]
@[simp] theorem views_comp {α : Type} (f : α → D) (l : List α) : OT.views (l.map (OT.fz ∘ f)) = l.map f := by
  induction l with
  | nil => rfl
  | cons x l ih => simp [-R.bind, ih]
@[simp] theorem allFz_mapf {α : Type} (f : α → D) (l : List α) : allFz (l.map fun x => .fz (f x)) = some (l.map f) := by
  induction l with
  | nil => rfl
  | cons x l ih => simp [-R.bind, ih]
theorem rngO_ok {a b : Int} (h1 : -8000000 ≤ a ∧ a ≤ 8000000) (h2 : -8000000 ≤ b ∧ b ≤ 8000000) : rngO a b = some (rngD a (b - a).toNat) := by
  unfold rngO; rw [if_pos ⟨h1.1, h1.2, h2.1, h2.2⟩]
theorem rngO_nat {n : Nat} (h : n ≤ 8000000) : rngO 0 (n : Int) = some (rngD 0 n) := by
  rw [rngO_ok (by omega) (by omega)]; simp [-R.bind]
@[simp] theorem rngD_get (a : Int) (n i : Nat) : (rngD a n)[i]? = if i < n then some (.int (a + i)) else none := by
  unfold rngD
  rw [List.getElem?_map]
  by_cases h : i < n
  · rw [if_pos h, List.getElem?_range h]; rfl
  · rw [if_neg h, List.getElem?_eq_none (by simp [-R.bind]; omega)]; rfl
@[simp] theorem rngD_len (a : Int) (n : Nat) : (rngD a n).length = n := by simp [-R.bind, rngD]
@[simp] theorem items_rng1 (n : Int) : itemsOf .rng1 [.int n] = rngO 0 n := rfl
@[simp] theorem items_rng2 (a n : Int) : itemsOf .rng2 [.int a, .int n] = rngO a n := rfl
@[simp] theorem items_lst (xs : List D) : itemsOf .val [.lst xs] = some xs := rfl
@[simp] theorem items_tup (xs : List D) : itemsOf .val [.tup xs] = some xs := rfl
@[simp] theorem items_str (xs : List Nat) : itemsOf .val [.str xs] = some (xs.map fun c => .str [c]) := rfl
@[simp] theorem pow_18 : powD (.int 10) (.int 18) = some (.fz (.int 1000000000000000000)) := rfl
end Rx
end

section
/-! Rx, laws: how the evaluator goes, the later constructs. -/
namespace Rx
open PySem
@[simp] theorem semAtt (a : IE) (cs : List Str) (f : Str) : (sem (.att a cs f)).1 = M.bind (sem a).1 fun t => M.bind (M.lift (attD t.view cs f)) fun d => M.pure (.fz d) := rfl
@[simp] theorem semChn (o1 o2 : CmpOp) (g1 g2 : D → D → Option Bool) (a b c : IE) : (sem (.chn o1 o2 g1 g2 a b c)).1 = op2M a b (sem a).1 (sem b).1 fun x y rb => M.bind (M.lift (g1 x y)) fun k => pickB k (M.bind (opd c (sem c).1) fun rc => M.bind (fin b rb) fun y => M.bind (fin c rc) fun z => blM (g2 y z)) (M.pure (.fz (.bl false))) := by
  show chnM g1 g2 a b c (sem a).1 (sem b).1 (sem c).1 = _
  unfold chnM
  congr 1; funext x y rb; congr 1; funext k; cases k <;> rfl
@[simp] theorem tstChn (o1 o2 : CmpOp) (g1 g2 : D → D → Option Bool) (a b c : IE) : (sem (.chn o1 o2 g1 g2 a b c)).2 = truthM (.chn o1 o2 g1 g2 a b c) (sem (.chn o1 o2 g1 g2 a b c)).1 := rfl
@[simp] theorem semMk (x : Str) (f : Fn) (es : List IE) : (sem (.mk x f es)).1 = M.bind (evs es) fun ts => mkC x f (OT.views ts) := rfl
@[simp] theorem semMth (T : String) (m : Str) (g : D → List D → Option OT) (a : IE) (es : List IE) : (sem (.mth T m g a es)).1 = M.bind (opd a (sem a).1) fun ra => M.bind (tyM T a ra) fun _ => M.bind (evOps es) fun rs => M.bind (fin a ra) fun x => M.bind (fins es rs) fun ds => M.lift (g x ds) := rfl
@[simp] theorem tstMth (T : String) (m : Str) (g : D → List D → Option OT) (a : IE) (es : List IE) : (sem (.mth T m g a es)).2 = truthM (.mth T m g a es) (sem (.mth T m g a es)).1 := rfl
@[simp] theorem tstAtt (a : IE) (cs : List Str) (f : Str) : (sem (.att a cs f)).2 = truthM (.att a cs f) (sem (.att a cs f)).1 := rfl
@[simp] theorem tyM_app (T : String) (x : IE) (r : Option D) (e : Ev) : tyM T x r e = (fin x r e).bind fun d e1 => if d.ty = some T then .ok () e1 else .bad := rfl
@[simp] theorem semDc (tg : TGt) (k : ITK) (its : List IE) (kx vx : IE) (own : List Nat) : (sem (.dc tg k its kx vx own)).1 = M.bind (evs its) fun ts => M.bind (M.lift (itemsOf k (OT.views ts))) fun xs => dcRun own tg (sem kx).1 (sem vx).1 xs := rfl
/-- a call of a name that holds a def -/
def cvM (tbl : List (Str × Fn)) (me : M (List OT)) (t : OT) : M OT := match t with
  | .fz (.fn x) => (match tbl.lookup x with
    | some f => M.bind me fun ts => callC f (OT.views ts)
    | none => fun _ => .bad)
  | _ => fun _ => .bad
@[simp] theorem semCv (j : Nat) (tbl : List (Str × Fn)) (es : List IE) : (sem (.cv j tbl es)).1 = M.bind (M.get j) fun t => cvM tbl (evs es) t := rfl
@[simp] theorem cvM_fn (tbl : List (Str × Fn)) (me : M (List OT)) (x : Str) : cvM tbl me (.fz (.fn x)) = match tbl.lookup x with
    | some f => M.bind me fun ts => callC f (OT.views ts)
    | none => fun _ => .bad := rfl
@[simp] theorem semPop0 (j : Nat) (x : IE) : (sem (.pop j [] (some x))).1 = M.bind (evOpt (some x)) fun k => fun e => (match e.at j with
    | some t => (match popO k t with
      | some (d, u') => .ok (.fz d) (e.set j (some u'))
      | none => .bad)
    | none => .bad) := by
  show (M.bind (evOpt (some x)) fun k => fun e => (match e.at j with
    | some t => (match nav e t [] with
      | some u => (match popO k u with
        | some (d, u') => (match updAt j [] (fun _ => some u') e with
          | some e' => R.ok (OT.fz d) e'
          | none => .bad)
        | none => .bad)
      | none => .bad)
    | none => .bad)) = _
  congr 1; funext k e
  cases h : e.at j with
  | none => rfl
  | some t =>
    simp only [nav]
    cases popO k t with
    | none => rfl
    | some q => obtain ⟨d, u'⟩ := q; simp only [updAt, h, setAt, Option.map_some]
@[simp] theorem callC_app (f : Fn) (ds : List D) (e : Ev) : callC f ds e = match f (ds.map fun d => some (.fz d)) with
  | .bad => .bad
  | .ok r _ => .ok r e
  | .exn x _ => .exn x e := rfl
@[simp] theorem mkC_app (x : Str) (f : Fn) (ds : List D) (e : Ev) : mkC x f ds e = match f (some (.ins x []) :: ds.map fun d => some (.fz d)) with
  | .ok (.fz .non) (some o :: _) => .ok o e
  | .exn y _ => .exn y e
  | _ => .bad := rfl
@[simp] theorem run_sta (j : Nat) (c f : Str) (x : IE) (e : Ev) : run1 (.sta j c f x) e = ((sem x).1 e).st fun t e1 => ofO (updAt j [] (staO c f t) e1) := rfl
@[simp] theorem run_rais (x : Str) (mk : List D → Option Exn) (es : List IE) (e : Ev) : run1 (.rais x mk es) e = ((M.bind (evs es) fun ts => M.lift (mk (OT.views ts))) e).st fun x e1 => .exn x e1 := rfl
@[simp] theorem run_tryR (b : List IS) (c : Str) (j : Nat) (f : Str) (e : Ev) : run1 (.tryR b c j f) e = tryS c (retF j f) (run b e) := rfl
@[simp] theorem tryS_nx (c : Str) (h : List (Str × D) → Ev → SR) (e : Ev) : tryS c h (.nx e) = .nx e := rfl
@[simp] theorem tryS_ret (c : Str) (h : List (Str × D) → Ev → SR) (t : OT) (e : Ev) : tryS c h (.ret t e) = .ret t e := rfl
@[simp] theorem tryS_exn (c : Str) (h : List (Str × D) → Ev → SR) (x : Exn) (e : Ev) : tryS c h (.exn x e) = if x.cls = c then h x.fs e else .bad := rfl
@[simp] theorem OT.view_dic (kvs : List (D × D)) : OT.view (.dic kvs) = .dic kvs := rfl
@[simp] theorem OT.view_ins (c : Str) (fs : List (Str × OT)) : OT.view (.ins c fs) = .ins c (OT.viewf fs) := rfl
@[simp] theorem OT.viewf_nil : OT.viewf [] = [] := rfl
@[simp] theorem OT.viewf_cons (f : Str) (x : OT) (fs : List (Str × OT)) : OT.viewf ((f, x) :: fs) = (f, x.view) :: OT.viewf fs := rfl
@[simp] theorem OT.flat_dic (kvs : List (D × D)) : OT.flat (.dic kvs) = some (.dic kvs) := rfl
@[simp] theorem attD_ins (c : Str) (fs : List (Str × D)) (cs : List Str) (f : Str) : attD (.ins c fs) cs f = if c ∈ cs then fs.lookup f else none := rfl
@[simp] theorem staO_ins (c f : Str) (x : OT) (fs : List (Str × OT)) : staO c f x (.ins c fs) = if fs.length < 1000 then some (.ins c (putA f x fs)) else none := by
  show (if c = c ∧ fs.length < 1000 then _ else _) = _
  simp
@[simp] theorem inD_dic (a : D) (kvs : List (D × D)) : inD a (.dic kvs) = if isKey a = true then some (hasD kvs a) else none := rfl
@[simp] theorem ixK_dic (kvs : List (D × D)) (k : D) : ixK (.dic kvs) k = lookD kvs k := rfl
@[simp] theorem getDk_ok (kvs : List (D × D)) (k : D) : getDk (.dic kvs) [k] = if isKey k = true then some (.fz ((lookD kvs k).getD .non)) else none := rfl
@[simp] theorem isKey_str (s : List Nat) : isKey (.str s) = true := rfl
@[simp] theorem isKey_int (s : Int) : isKey (.int s) = true := rfl
@[simp] theorem items_enum (xs : List D) : itemsOf .enum [.lst xs] = some (enumD 0 xs) := rfl
@[simp] theorem items_zip (xs ys : List D) : itemsOf .zip [.lst xs, .lst ys] = some (zipD xs ys) := rfl
@[simp] theorem bindT_tp (ts : List TGt) (ds : List D) (e : Ev) : bindT (.tp ts) (.tup ds) e = bindTs ts ds e := rfl
@[simp] theorem bindT_tpl (ts : List TGt) (ds : List D) (e : Ev) : bindT (.tp ts) (.lst ds) e = bindTs ts ds e := rfl
@[simp] theorem bindTs_nil (e : Ev) : bindTs [] [] e = some e := rfl
@[simp] theorem bindTs_cons (t : TGt) (ts : List TGt) (d : D) (ds : List D) (e : Ev) : bindTs (t :: ts) (d :: ds) e = (bindT t d e).bind fun e' => bindTs ts ds e' := rfl
@[simp] theorem isi_list_lst (xs ds : List D) : isiD "list" (.lst xs) ds = some (.fz (.bl true)) := rfl
@[simp] theorem isi_list_tup (xs ds : List D) : isiD "list" (.tup xs) ds = some (.fz (.bl false)) := rfl
@[simp] theorem isi_list_str (xs : List Nat) (ds : List D) : isiD "list" (.str xs) ds = some (.fz (.bl false)) := rfl
@[simp] theorem isi_tuple_tup (xs ds : List D) : isiD "tuple" (.tup xs) ds = some (.fz (.bl true)) := rfl
@[simp] theorem isi_tuple_lst (xs ds : List D) : isiD "tuple" (.lst xs) ds = some (.fz (.bl false)) := rfl
@[simp] theorem isi_str_str (xs : List Nat) (ds : List D) : isiD "str" (.str xs) ds = some (.fz (.bl true)) := rfl
@[simp] theorem isi_bool_bl (b : Bool) (ds : List D) : isiD "bool" (.bl b) ds = some (.fz (.bl true)) := rfl
@[simp] theorem wipeE_nil (e : Ev) : wipeE e [] = e := rfl
@[simp] theorem wipeE_cons (e : Ev) (j : Nat) (js : List Nat) : wipeE e (j :: js) = (wipeE e js).set j none := rfl
@[simp] theorem views_append (a b : List OT) : OT.views (a ++ b) = OT.views a ++ OT.views b := by
  induction a with
  | nil => rfl
  | cons x a ih => simp [-R.bind, ih]
theorem allFz_append {a b : List OT} {x y : List D} (h1 : allFz a = some x) (h2 : allFz b = some y) : allFz (a ++ b) = some (x ++ y) := by
  induction a generalizing x with
  | nil => cases h1; exact h2
  | cons t a ih =>
    cases t with
    | fz d =>
      rw [allFz_cons] at h1
      obtain ⟨z, hz, rfl⟩ := Option.map_eq_some_iff.mp h1
      rw [List.cons_append, allFz_cons, ih hz]; rfl
    | lst ts => cases h1
    | dic ts => cases h1
    | ins c ts => cases h1
@[simp] theorem extK_lst (ds : List D) (f : List D → SR) : extK (.lst ds) f = f ds := rfl
/-- a list that grows -/
theorem ext_ml (xs ys : List D) : extO ys (.ml xs) = if xs.length + ys.length ≤ sizeMax then some (.ml (xs ++ ys)) else none := by
  show (if (xs.map OT.fz).length + ys.length ≤ sizeMax then some (OT.lst (xs.map .fz ++ ys.map .fz)) else none) = _
  rw [List.length_map, ← List.map_append]
/-! ### a comprehension that changes nothing, any target -/
theorem lc_map {own : List Nat} {tg : TGt} {mc : M Bool} {me : M OT} {xs : List D} {e : Ev} (c : D → Bool) (g : D → OT) (hown : ownOk e own = true) (hr : restE e (wipeE e own) own = e)
    (step : ∀ d ∈ xs, ∃ e1, bindT tg d (wipeE e own) = some e1 ∧ mc e1 = .ok (c d) e1 ∧ (c d = true → me e1 = .ok (g d) e1) ∧ wipeE e1 own = wipeE e own) : lcRun own tg mc me xs e = .ok (.ml ((xs.filter c).map fun d => (g d).view)) e := by
  have go : ∀ (ys : List D) (acc : List D) (e' : Ev), (∀ d ∈ ys, d ∈ xs) → wipeE e' own = wipeE e own → ∃ e2, lcGo own tg mc me ys acc e' = .ok (acc ++ (ys.filter c).map fun d => (g d).view) e2 ∧ wipeE e2 own = wipeE e own := by
    intro ys
    induction ys with
    | nil => intro acc e' _ hw; exact ⟨e', by simp [-R.bind, lcGo], hw⟩
    | cons d ds ih =>
      intro acc e' hm hw
      obtain ⟨e1, h1, h2, h3, h4⟩ := step d (hm d List.mem_cons_self)
      have hm2 : ∀ d ∈ ds, d ∈ xs := fun z hz => hm z (List.mem_cons_of_mem _ hz)
      have eq : lcGo own tg mc me (d :: ds) acc e' = (noX (mc e1)).bind fun b e2 => pickB b ((noX (me e2)).bind fun t e3 => lcGo own tg mc me ds (acc ++ [t.view]) e3) (lcGo own tg mc me ds acc e2) := by
        show (match bindT tg d (wipeE e' own) with | none => _ | some e1 => _) = _
        rw [hw, h1]
      rw [eq, h2]
      cases hc : c d with
      | true =>
        obtain ⟨e2, q1, q2⟩ := ih (acc ++ [(g d).view]) e1 hm2 h4
        exact ⟨e2, by simp [-R.bind, h3 hc, q1, hc], q2⟩
      | false =>
        obtain ⟨e2, q1, q2⟩ := ih acc e1 hm2 h4
        exact ⟨e2, by simp [-R.bind, q1, hc], q2⟩
  obtain ⟨e2, q1, q2⟩ := go xs [] e (fun _ h => h) rfl
  unfold lcRun
  rw [hown]
  show (lcGo own tg mc me xs [] e).bind _ = _
  rw [q1]
  show R.ok _ (restE e (wipeE e2 own) own) = _
  rw [q2, hr]; simp
/-! ### dicts -/
theorem putD_new {kvs : List (D × D)} {k v : D} (h : ∀ p ∈ kvs, p.1 ≠ k) : putD kvs k v = kvs ++ [(k, v)] := by
  have : hasD kvs k = false := by
    unfold hasD
    rw [List.any_eq_false]
    intro p hp; simpa using h p hp
  unfold putD
  rw [this]
theorem putD_len (kvs : List (D × D)) (k v : D) : (putD kvs k v).length ≤ kvs.length + 1 := by
  unfold putD
  cases hasD kvs k <;> simp
/-- a dict of distinct keys is made -/
theorem dc_map {own : List Nat} {tg : TGt} {mk mv : M OT} {xs : List D} {e : Ev} (gk gv : D → D) (hown : ownOk e own = true) (hr : restE e (wipeE e own) own = e) (hn : (xs.map gk).Nodup) (hz : xs.length ≤ sizeMax)
    (step : ∀ d ∈ xs, ∃ e1 t u, bindT tg d (wipeE e own) = some e1 ∧ mk e1 = .ok t e1 ∧ mv e1 = .ok u e1 ∧ t.view = gk d ∧ u.view = gv d ∧ isKey (gk d) = true ∧ wipeE e1 own = wipeE e own) : dcRun own tg mk mv xs e = .ok (.dic (xs.map fun d => (gk d, gv d))) e := by
  have go : ∀ (ys zs : List D) (e' : Ev), xs = zs ++ ys → wipeE e' own = wipeE e own → ∃ e2, dcGo own tg mk mv ys (zs.map fun d => (gk d, gv d)) e' = .ok (xs.map fun d => (gk d, gv d)) e2 ∧ wipeE e2 own = wipeE e own := by
    intro ys
    induction ys with
    | nil => intro zs e' hx hw; rw [List.append_nil] at hx; subst hx; exact ⟨e', rfl, hw⟩
    | cons d ds ih =>
      intro zs e' hx hw
      obtain ⟨e1, t, u, h1, h2, h3, h4, h5, h6, h7⟩ := step d (by rw [hx]; simp)
      have hl : (zs.map fun d => (gk d, gv d)).length < sizeMax := by
        have := congrArg List.length hx
        simp at this ⊢; omega
      have eq : dcGo own tg mk mv (d :: ds) (zs.map fun d => (gk d, gv d)) e' = dcGo own tg mk mv ds (putD (zs.map fun d => (gk d, gv d)) (gk d) (gv d)) e1 := by
        show (match bindT tg d (wipeE e' own) with | none => _ | some e1 => _) = _
        rw [hw, h1]
        show (noX (mk e1)).bind _ = _
        rw [h2]
        show (noX (mv e1)).bind _ = _
        rw [h3]
        show (if isKey t.view = true ∧ _ then _ else _) = _
        rw [h4, if_pos ⟨h6, hl⟩, h5]
      rw [eq, putD_new (fun p hp => ?_)]
      · obtain ⟨e2, q1, q2⟩ := ih (zs ++ [d]) e1 (by rw [hx]; simp) h7
        exact ⟨e2, by simpa using q1, q2⟩
      · obtain ⟨z, hz, rfl⟩ := List.mem_map.mp hp
        rw [hx] at hn
        simp only [List.map_append, List.map_cons] at hn
        have := List.nodup_append.mp hn
        exact this.2.2 (gk z) (List.mem_map_of_mem hz) (gk d) List.mem_cons_self
  obtain ⟨e2, q1, q2⟩ := go xs [] e rfl rfl
  unfold dcRun
  rw [hown]
  show (dcGo own tg mk mv xs [] e).bind _ = _
  rw [show dcGo own tg mk mv xs [] e = _ from q1]
  show R.ok _ (restE e (wipeE e2 own) own) = _
  rw [q2, hr]
theorem blsOf_all {l : List D} (h : ∀ d ∈ l, d = .bl true) : allB [.lst l] = some (.fz (.bl true)) := by
  have : blsOf l = some (l.map fun _ => true) := by
    induction l with
    | nil => rfl
    | cons d ds ih =>
      rw [h d List.mem_cons_self]
      simp [-R.bind, blsOf, ih fun z hz => h z (List.mem_cons_of_mem _ hz)]
  show (blsOf l).map _ = _
  rw [this]
  simp
end Rx
end

section
/-! Rx, laws: how the evaluator goes: paths, methods. -/
namespace Rx
open PySem
@[simp] theorem semPth (j : Nat) (ss : List Wy) : (sem (.pth j ss)).1 = M.bind (M.get j) fun t => fun e => (match nav e t ss with
    | some (.fz d) => .ok (.fz d) e
    | _ => .bad) := rfl
@[simp] theorem semLnp (j : Nat) (ss : List Wy) : (sem (.lnp j ss)).1 = M.bind (M.get j) fun t => fun e => (match nav e t ss with
    | some (.lst ts) => .ok (.fz (intD ts.length)) e
    | _ => .bad) := rfl
@[simp] theorem semMeth (c m : Str) (ms : List Bool) (f : Fn) (j : Nat) (es : List IE) : (sem (.meth c m ms f j es)).1 = M.bind (M.get j) fun t => M.bind (chkM c m t) fun _ => M.bind (evArgs ms es) fun as => callF f ((none, some j) :: as) := rfl
@[simp] theorem tstMeth (c m : Str) (ms : List Bool) (f : Fn) (j : Nat) (es : List IE) : (sem (.meth c m ms f j es)).2 = truthM (.meth c m ms f j es) (sem (.meth c m ms f j es)).1 := rfl
@[simp] theorem chkM_ins (c m : Str) (fs : List (Str × OT)) : chkM c m (.ins c fs) = if fs.lookup m = none then M.pure () else fun _ => .bad := by
  show (if c = c ∧ fs.lookup m = none then M.pure () else fun _ => .bad : M Unit) = _
  by_cases h : fs.lookup m = none
  · rw [if_pos ⟨rfl, h⟩, if_pos h]
  · rw [if_neg (fun z : c = c ∧ fs.lookup m = none => h z.2), if_neg h]
@[simp] theorem run_apq (j : Nat) (ss : List Wy) (x : IE) (e : Ev) : run1 (.apq j ss x) e = (match e.at j with
    | some t0 => (match nav e t0 ss with
      | some (.lst _) => ((sem x).1 (e.set j none)).st fun t e1 => (match setAt e (appO t) t0 ss with
        | some t' => .nx (e1.set j (some t'))
        | none => .bad)
      | _ => .bad)
    | none => .bad) := rfl
@[simp] theorem run_stp (j : Nat) (ss : List Wy) (w : Wy) (x : IE) (e : Ev) : run1 (.stp j ss w x) e = ((sem x).1 e).st fun t e1 => ofO (updAt j ss (stpO e1 w t) e1) := rfl
@[simp] theorem run_aga (j : Nat) (c f : Str) (i : Int) (e : Ev) : run1 (.aga j c f i) e = ofO (updAt j [] (agaO c f i) e) := rfl
@[simp] theorem child_c (e : Ev) (ts : List OT) (i : Int) : Wy.child e (.lst ts) (.c i) = getI ts i := rfl
@[simp] theorem child_f (e : Ev) (c : Str) (fs : List (Str × OT)) (cs : List Str) (x : Str) : Wy.child e (.ins c fs) (.f cs x) = if c ∈ cs then fs.lookup x else none := rfl
@[simp] theorem child_ct (e : Ev) (ds : List D) (i : Int) : Wy.child e (.fz (.tup ds)) (.c i) = (getI ds i).map .fz := rfl
@[simp] theorem child_cl (e : Ev) (ds : List D) (i : Int) : Wy.child e (.fz (.lst ds)) (.c i) = (getI ds i).map .fz := rfl
theorem child_v {e : Ev} {j : Nat} {i : Int} (h : e.at j = some (.fz (.int i))) (ts : List OT) : Wy.child e (.lst ts) (.v j) = getI ts i := by simp only [Wy.child, h]
end Rx
end

section
open PySem Rx
namespace Gv
abbrev LETTERS : D := .str [97, 98, 99, 100, 101, 102, 103, 104, 105, 106, 107, 108, 109, 110, 111, 112, 113, 114, 115, 116, 117, 118, 119, 120, 121, 122]
abbrev LONGEST_NAME : D := .int 8
abbrev MOST_BODY : D := .int 12
abbrev MOST_DEPTH : D := .int 5
abbrev MOST_EXECUTED : D := .int 1000
abbrev MOST_FUNCTIONS : D := .int 4
abbrev MOST_NUMBER : D := .int 1000
abbrev MOST_PARAMETERS : D := .int 4
abbrev MOST_RIGHTS : D := .int 6
abbrev MOST_STARS : D := .int 5
abbrev MOST_STATEMENTS : D := .int 40
abbrev RIGHTS : D := .tup [.str [45], .str [114], .str [114, 119], .str [119]]
end Gv
namespace Ir
noncomputable def _law_cell : Def := ⟨2, [false, false], [.iff (.cmp .Lt ltD (.var 1) (.bi "len" lenD [(.var 0)])) [.ret (.ix (.var 0) (.var 1))] [], .ret (.con (.int 0))]⟩
noncomputable def _law_row : Def := ⟨7, [false, false, false], [.asg 3 (.lst []), .for_ (.nm 4) .rng2 [(.var 1), (.var 2)] [.asg 5 (.call "_law_cell" [false, false] Ir._law_cell.fn [(.var 0), (.var 4)]), .asg 5 (.bop .Add addD (.bi "abs" absD [(.bop .Mult mulD (.con (.int 2)) (.var 5))]) (.bi "int" intB [(.cmp .Lt ltD (.var 5) (.con (.int 0)))])), .iff (.cmp .Gt gtD (.var 5) (.bop .Pow powD (.con (.int 10)) (.con (.int 18)))) [.for_ (.nm 6) .rng1 [(.con (.int 60))] [.iff (.cmp .Gt gtD (.var 5) (.con (.int 0))) [.app 3 [] (.bop .Mod modD (.bi "int" intB [(.var 5)]) (.con (.int 840))), .asg 5 (.bop .FloorDiv fdivD (.var 5) (.con (.int 840)))] []]] [.for_ (.nm 6) .rng1 [(.con (.int 10))] [.asg 5 (.bop .Mod modD (.bi "int" intB [(.bop .Add addD (.bop .Add addD (.bop .Mult mulD (.var 5) (.con (.int 69069))) (.bop .Mult mulD (.con (.int 104729)) (.bop .Add addD (.var 4) (.var 6)))) (.con (.int 1)))]) (.con (.int 4294967291))), .app 3 [] (.bop .Mod modD (.bi "int" intB [(.bop .FloorDiv fdivD (.var 5) (.con (.int 5003)))]) (.con (.int 840)))]]], .ret (.var 3)]⟩
noncomputable def _law_draw : Def := ⟨3, [true, false], [.asg 2 (.ix (.var 0) (.con (.int 1))), .sto 0 [] (.con (.int 1)) (.fzz (.bop .Add addD (.var 2) (.con (.int 1)))), .iff (.cmp .Lt ltD (.var 2) (.bi "len" lenD [(.ix (.var 0) (.con (.int 0)))])) [.ret (.bop .Mod modD (.bi "int" intB [(.ix (.ix (.var 0) (.con (.int 0))) (.var 2))]) (.var 1))] [], .ret (.bop .Mod modD (.bi "int" intB [(.bop .Add addD (.bop .Mult mulD (.var 2) (.con (.int 5))) (.con (.int 1)))]) (.var 1))]⟩
noncomputable def _law_right : Def := ⟨1, [true], [.ret (.ix (.lst [(.con (.str [114, 119])), (.con (.str [114, 119])), (.con (.str [114])), (.con (.str [119])), (.con (.str [45])), (.con (.str [114, 119]))]) (.call "_law_draw" [true, false] Ir._law_draw.fn [(.var 0), (.con (.int 6))]))]⟩
noncomputable def _law_rights : Def := ⟨3, [true, false], [.ret (.bi "tuple" tupB [(.lc (.nm 2) .rng1 [(.var 1)] none (.call "_law_right" [true] Ir._law_right.fn [(.var 0)]) [2])])]⟩
noncomputable def _law_pair : Def := ⟨6, [true, false], [.asg 2 (.call "_law_draw" [true, false] Ir._law_draw.fn [(.var 0), (.bop .Add addD (.var 1) (.con (.int 1)))]), .asg 3 (.call "_law_rights" [true, false] Ir._law_rights.fn [(.var 0), (.var 2)]), .asg 4 (.call "_law_rights" [true, false] Ir._law_rights.fn [(.var 0), (.var 2)]), .iff (.cmp .Eq eqD (.call "_law_draw" [true, false] Ir._law_draw.fn [(.var 0), (.con (.int 2))]) (.con (.int 0))) [.asg 4 (.bi "tuple" tupB [(.lc (.nm 5) .rng1 [(.var 2)] none (.ix (.lst [(.ix (.var 4) (.var 5)), (.ix (.var 3) (.var 5))]) (.bi "int" intB [(.cmp .Gt gtD (.call "_law_draw" [true, false] Ir._law_draw.fn [(.var 0), (.con (.int 3))]) (.con (.int 0)))])) [5])])] [], .ret (.fzz (.lst [(.var 3), (.var 4)]))]⟩
noncomputable def _find (self : Fn) : Def := ⟨4, [false, false], [.iff (.nt (.var 0)) [.ret (.con .non)] [], .for_ (.nm 2) .val [(.tup [(.con (.str [114])), (.con (.str [119]))])] [.iff (.und [(.cmp .In inD (.var 2) (.ix (.var 1) (.con (.int 0)))), (.cmp .NotIn ninD (.var 2) (.ix (.var 0) (.con (.int 0))))]) [.ret (.tup [(.lst []), (.var 2)])] []], .for_ (.nm 2) .val [(.tup [(.con (.str [114])), (.con (.str [119]))])] [.iff (.cmp .In inD (.var 2) (.ix (.var 1) (.con (.int 0)))) [.asg 3 (.ife (.cmp .Eq eqD (.var 2) (.con (.str [114]))) (.call "_find" [false, false] self [(.sl (.var 0) (some (.con (.int 1))) none), (.sl (.var 1) (some (.con (.int 1))) none)]) (.call "_find" [false, false] self [(.sl (.var 1) (some (.con (.int 1))) none), (.sl (.var 0) (some (.con (.int 1))) none)])), .iff (.cmp .IsNot nisD (.var 3) (.con .non)) [.ret (.tup [(.bop .Add addD (.lst [(.var 2)]) (.ix (.var 3) (.con (.int 0)))), (.ix (.var 3) (.con (.int 1)))])] []] []], .ret (.con .non)]⟩
noncomputable def _findN : Nat → Fn
  | 0 => fun _ => .bad
  | n + 1 => (_find (_findN n)).fn
noncomputable def converts : Def := ⟨2, [false, false], [.ret (.und [(.cmp .Eq eqD (.bi "len" lenD [(.var 0)]) (.bi "len" lenD [(.var 1)])), (.cmp .Is isD (.call "_find" [false, false] (Ir._findN 10) [(.var 0), (.var 1)]) (.con .non))])]⟩
noncomputable def bar : Def := ⟨2, [false, false], [.ret (.call "_find" [false, false] (Ir._findN 10) [(.var 0), (.var 1)])]⟩
noncomputable def _steps : Def := ⟨5, [false, false, false], [.asg 3 (.lst [(.tup [(.var 0), (.var 1)])]), .for_ (.nm 4) .val [(.var 2)] [.asgT (.tp [(.nm 0), (.nm 1)]) (.ife (.cmp .Eq eqD (.var 4) (.con (.str [114]))) (.tup [(.sl (.var 0) (some (.con (.int 1))) none), (.sl (.var 1) (some (.con (.int 1))) none)]) (.tup [(.sl (.var 1) (some (.con (.int 1))) none), (.sl (.var 0) (some (.con (.int 1))) none)])), .app 3 [] (.tup [(.var 0), (.var 1)])], .ret (.var 3)]⟩
noncomputable def _copied : Def := ⟨2, [false], [.iff (.nt (.me "isinstance" (isiD "tuple") (.var 0) [])) [.ret (.var 0)] [], .ret (.bi "tuple" tupB [(.lc (.nm 1) .val [(.var 0)] none (.ife (.me "isinstance" (isiD "list") (.var 1) []) (.bi "list" listB [(.var 1)]) (.var 1)) [1])])]⟩
noncomputable def copied : Def := ⟨2, [false], [.iff (.nt (.me "isinstance" (isiD "list") (.var 0) [])) [.ret (.var 0)] [], .ret (.fzz (.lc (.nm 1) .val [(.var 0)] none (.call "_copied" [false] Ir._copied.fn [(.var 1)]) [1]))]⟩
noncomputable def Function___init__ : Def := ⟨4, [true, false, false, false], [.sta 0 "Function" "name" (.var 1), .sta 0 "Function" "params" (.call "copied" [false] Ir.copied.fn [(.var 2)]), .sta 0 "Function" "body" (.call "copied" [false] Ir.copied.fn [(.var 3)])]⟩
noncomputable def _are_calls : Def := ⟨5, [false, false], [.asg 2 (.dc (.nm 4) .val [(.var 1)] (.att (.var 4) ["Function"] "name") (.bi "len" lenD [(.att (.var 4) ["Function"] "params")]) [4]), .for_ (.nm 3) .val [(.var 0)] [.iff (.und [(.cmp .Eq eqD (.ix (.var 3) (.con (.int 0))) (.con (.str [99, 97, 108, 108]))), (.cmp .NotEq neD (.mth "dict" "get" getDk (.var 2) [(.ix (.var 3) (.con (.int 1)))]) (.bi "len" lenD [(.ix (.var 3) (.con (.int 2)))]))]) [.ret (.con (.bl false))] []], .ret (.con (.bl true))]⟩
noncomputable def is_name : Def := ⟨2, [false], [.iff (.orr [(.nt (.me "isinstance" (isiD "str") (.var 0) [])), (.nt (.chn .LtE .LtE leD leD (.con (.int 1)) (.bi "len" lenD [(.var 0)]) (.glo "LONGEST_NAME" Gv.LONGEST_NAME))), (.cmp .Eq eqD (.var 0) (.con (.str [110, 117, 108, 108])))]) [.ret (.con (.bl false))] [], .ret (.bi "all" allB [(.lc (.nm 1) .val [(.var 0)] none (.cmp .In inD (.var 1) (.glo "LETTERS" Gv.LETTERS)) [1])])]⟩
noncomputable def is_right : Def := ⟨1, [false], [.ret (.und [(.me "isinstance" (isiD "str") (.var 0) []), (.cmp .In inD (.var 0) (.glo "RIGHTS" Gv.RIGHTS))])]⟩
noncomputable def is_value_type : Def := ⟨2, [false], [.ret (.und [(.me "isinstance" (isiD "tuple") (.var 0) []), (.cmp .LtE leD (.bi "len" lenD [(.var 0)]) (.glo "MOST_RIGHTS" Gv.MOST_RIGHTS)), (.bi "all" allB [(.lc (.nm 1) .val [(.var 0)] none (.call "is_right" [false] Ir.is_right.fn [(.var 1)]) [1])])])]⟩
noncomputable def is_type : Def := ⟨1, [false], [.ret (.und [(.call "is_value_type" [false] Ir.is_value_type.fn [(.var 0)]), (.cmp .Gt gtD (.bi "len" lenD [(.var 0)]) (.con (.int 0)))])]⟩
noncomputable def is_number : Def := ⟨2, [false, false], [.ret (.und [(.me "isinstance" (isiD "int") (.var 0) []), (.nt (.me "isinstance" (isiD "bool") (.var 0) [])), (.chn .LtE .LtE leD leD (.con (.int 0)) (.var 0) (.var 1))])]⟩
noncomputable def is_depth : Def := ⟨1, [false], [.ret (.call "is_number" [false, false] Ir.is_number.fn [(.var 0), (.glo "MOST_DEPTH" Gv.MOST_DEPTH)])]⟩
noncomputable def is_place : Def := ⟨1, [false], [.iff (.orr [(.nt (.me "isinstance" (isiD "tuple") (.var 0) [])), (.cmp .NotEq neD (.bi "len" lenD [(.var 0)]) (.con (.int 2)))]) [.ret (.con (.bl false))] [], .ret (.und [(.call "is_name" [false] Ir.is_name.fn [(.ix (.var 0) (.con (.int 0)))]), (.call "is_number" [false, false] Ir.is_number.fn [(.ix (.var 0) (.con (.int 1))), (.glo "MOST_STARS" Gv.MOST_STARS)])])]⟩
noncomputable def is_source : Def := ⟨1, [false], [.iff (.cmp .Eq eqD (.var 0) (.tup [(.con (.str [110, 117, 108, 108]))])) [.ret (.con (.bl true))] [], .iff (.orr [(.nt (.me "isinstance" (isiD "tuple") (.var 0) [])), (.cmp .NotEq neD (.bi "len" lenD [(.var 0)]) (.con (.int 2)))]) [.ret (.con (.bl false))] [], .iff (.cmp .Eq eqD (.ix (.var 0) (.con (.int 0))) (.con (.str [110, 117, 109, 98, 101, 114]))) [.ret (.call "is_number" [false, false] Ir.is_number.fn [(.ix (.var 0) (.con (.int 1))), (.glo "MOST_NUMBER" Gv.MOST_NUMBER)])] [], .ret (.und [(.cmp .In inD (.ix (.var 0) (.con (.int 0))) (.tup [(.con (.str [118, 97, 108, 117, 101])), (.con (.str [97, 100, 100, 114, 101, 115, 115]))])), (.call "is_place" [false] Ir.is_place.fn [(.ix (.var 0) (.con (.int 1)))])])]⟩
noncomputable def is_statement : Def := ⟨3, [false, false], [.iff (.orr [(.nt (.me "isinstance" (isiD "tuple") (.var 0) [])), (.cmp .Eq eqD (.bi "len" lenD [(.var 0)]) (.con (.int 0)))]) [.ret (.con (.bl false))] [], .iff (.cmp .Eq eqD (.ix (.var 0) (.con (.int 0))) (.con (.str [108, 101, 116]))) [.ret (.und [(.cmp .Eq eqD (.bi "len" lenD [(.var 0)]) (.con (.int 4))), (.call "is_name" [false] Ir.is_name.fn [(.ix (.var 0) (.con (.int 1)))]), (.cv 1 [("is_type", Ir.is_type.fn), ("is_depth", Ir.is_depth.fn)] [(.ix (.var 0) (.con (.int 2)))]), (.call "is_source" [false] Ir.is_source.fn [(.ix (.var 0) (.con (.int 3)))])])] [], .iff (.cmp .Eq eqD (.ix (.var 0) (.con (.int 0))) (.con (.str [112, 117, 116]))) [.ret (.und [(.cmp .Eq eqD (.bi "len" lenD [(.var 0)]) (.con (.int 3))), (.call "is_place" [false] Ir.is_place.fn [(.ix (.var 0) (.con (.int 1)))]), (.call "is_source" [false] Ir.is_source.fn [(.ix (.var 0) (.con (.int 2)))])])] [], .iff (.orr [(.cmp .NotEq neD (.ix (.var 0) (.con (.int 0))) (.con (.str [99, 97, 108, 108]))), (.cmp .NotEq neD (.bi "len" lenD [(.var 0)]) (.con (.int 3))), (.nt (.call "is_name" [false] Ir.is_name.fn [(.ix (.var 0) (.con (.int 1)))]))]) [.ret (.con (.bl false))] [], .ret (.und [(.me "isinstance" (isiD "list") (.ix (.var 0) (.con (.int 2))) []), (.bi "all" allB [(.lc (.nm 2) .val [(.ix (.var 0) (.con (.int 2)))] none (.call "is_source" [false] Ir.is_source.fn [(.var 2)]) [2])])])]⟩
noncomputable def _is_block : Def := ⟨4, [false, false, false], [.iff (.orr [(.nt (.me "isinstance" (isiD "list") (.var 0) [])), (.cmp .Gt gtD (.bi "len" lenD [(.var 0)]) (.var 1))]) [.ret (.con (.bl false))] [], .ret (.bi "all" allB [(.lc (.nm 3) .val [(.var 0)] none (.call "is_statement" [false, false] Ir.is_statement.fn [(.var 3), (.var 2)]) [3])])]⟩
noncomputable def _made : Def := ⟨2, [false], [.ret (.fzz (.lc (.nm 1) .val [(.var 0)] (some (.cmp .Eq eqD (.ix (.var 1) (.con (.int 0))) (.con (.str [108, 101, 116])))) (.ix (.var 1) (.con (.int 1))) [1]))]⟩
noncomputable def names_of : Def := ⟨6, [false, false], [.asg 2 (.lst []), .for_ (.nm 3) .val [(.var 0)] [.ext 2 [] (.fzz (.bop .Add addD (.lc (.tp [(.nm 4), (.nm 5)]) .val [(.att (.var 3) ["Function"] "params")] none (.var 4) [4, 5]) (.call "_made" [false] Ir._made.fn [(.att (.var 3) ["Function"] "body")])))], .ret (.fzz (.bop .Add addD (.var 2) (.call "_made" [false] Ir._made.fn [(.var 1)])))]⟩
noncomputable def _is_parameter : Def := ⟨2, [false, false], [.ret (.und [(.me "isinstance" (isiD "tuple") (.var 0) []), (.cmp .Eq eqD (.bi "len" lenD [(.var 0)]) (.con (.int 2))), (.call "is_name" [false] Ir.is_name.fn [(.ix (.var 0) (.con (.int 0)))]), (.cv 1 [("is_type", Ir.is_type.fn), ("is_depth", Ir.is_depth.fn)] [(.ix (.var 0) (.con (.int 1)))])])]⟩
noncomputable def _is_function : Def := ⟨3, [false, false], [.iff (.orr [(.nt (.me "isinstance" (isiC "Function") (.var 0) [])), (.nt (.call "is_name" [false] Ir.is_name.fn [(.att (.var 0) ["Function"] "name")])), (.nt (.me "isinstance" (isiD "list") (.att (.var 0) ["Function"] "params") []))]) [.ret (.con (.bl false))] [], .iff (.orr [(.cmp .Gt gtD (.bi "len" lenD [(.att (.var 0) ["Function"] "params")]) (.glo "MOST_PARAMETERS" Gv.MOST_PARAMETERS)), (.nt (.bi "all" allB [(.lc (.nm 2) .val [(.att (.var 0) ["Function"] "params")] none (.call "_is_parameter" [false, false] Ir._is_parameter.fn [(.var 2), (.var 1)]) [2])]))]) [.ret (.con (.bl false))] [], .ret (.call "_is_block" [false, false, false] Ir._is_block.fn [(.att (.var 0) ["Function"] "body"), (.glo "MOST_BODY" Gv.MOST_BODY), (.var 1)])]⟩
noncomputable def _is_program : Def := ⟨7, [false, false, false], [.iff (.orr [(.nt (.me "isinstance" (isiD "list") (.var 0) [])), (.cmp .Gt gtD (.bi "len" lenD [(.var 0)]) (.glo "MOST_FUNCTIONS" Gv.MOST_FUNCTIONS))]) [.ret (.con (.bl false))] [], .iff (.nt (.bi "all" allB [(.lc (.nm 5) .val [(.var 0)] none (.call "_is_function" [false, false] Ir._is_function.fn [(.var 5), (.var 2)]) [5])])) [.ret (.con (.bl false))] [], .iff (.nt (.call "_is_block" [false, false, false] Ir._is_block.fn [(.var 1), (.glo "MOST_STATEMENTS" Gv.MOST_STATEMENTS), (.var 2)])) [.ret (.con (.bl false))] [], .asg 3 (.bop .Add addD (.lc (.nm 5) .val [(.var 0)] none (.att (.var 5) ["Function"] "name") [5]) (.call "names_of" [false, false] Ir.names_of.fn [(.var 0), (.var 1)])), .iff (.cmp .NotEq neD (.bi "len" lenD [(.dc (.nm 6) .val [(.var 3)] (.var 6) (.con (.bl true)) [6])]) (.bi "len" lenD [(.var 3)])) [.ret (.con (.bl false))] [], .for_ (.tp [(.nm 4), (.nm 5)]) .enum [(.var 0)] [.iff (.nt (.call "_are_calls" [false, false] Ir._are_calls.fn [(.att (.var 5) ["Function"] "body"), (.sl (.var 0) none (some (.var 4)))])) [.ret (.con (.bl false))] []], .ret (.call "_are_calls" [false, false] Ir._are_calls.fn [(.var 1), (.var 0)])]⟩
noncomputable def Program___init__ : Def := ⟨4, [true, false, false], [.iff (.und [(.nt (.call "_is_program" [false, false, false] Ir._is_program.fn [(.var 1), (.var 2), (.con (.fn "is_type"))])), (.nt (.call "_is_program" [false, false, false] Ir._is_program.fn [(.var 1), (.var 2), (.con (.fn "is_depth"))]))]) [.rais "RightsError" reOf [(.con (.str [110, 111, 32, 112, 114, 111, 103, 114, 97, 109]))]] [], .sta 0 "Program" "functions" (.fzz (.lc (.nm 3) .val [(.var 1)] none (.fzz (.mk "Function" Ir.Function___init__.fn [(.att (.var 3) ["Function"] "name"), (.att (.var 3) ["Function"] "params"), (.att (.var 3) ["Function"] "body")])) [3])), .sta 0 "Program" "statements" (.call "copied" [false] Ir.copied.fn [(.var 2)])]⟩
noncomputable def _empty : Def := ⟨1, [false], [.ret (.ife (.cmp .Gt gtD (.bi "len" lenD [(.var 0)]) (.con (.int 0))) (.tup [(.con (.str [110, 117, 108, 108]))]) (.tup [(.con (.str [110, 117, 109, 98, 101, 114])), (.con (.int 0))]))]⟩
noncomputable def _converter (self : Fn) : Def := ⟨14, [false, false, false], [.asgT (.tp [(.nm 10), (.nm 11)]) (.ix (.var 0) (.var 2)), .asg 3 (.ix (.con (.str [97, 98, 99, 100, 101, 102])) (.var 2)), .iff (.cmp .Eq eqD (.var 2) (.con (.int 0))) [.ret (.fzz (.lst [(.tup [(.con (.str [108, 101, 116])), (.bop .Add addD (.con (.str [121])) (.var 3)), (.bop .Add addD (.tup [(.con (.str [114, 119]))]) (.var 11)), (.tup [(.con (.str [118, 97, 108, 117, 101])), (.tup [(.bop .Add addD (.con (.str [120])) (.var 3)), (.con (.int 0))])])])]))] [], .asgT (.tp [(.nm 12), (.nm 13)]) (.ix (.var 0) (.bop .Sub subD (.var 2) (.con (.int 1)))), .asg 4 (.ix (.con (.str [97, 98, 99, 100, 101, 102])) (.bop .Sub subD (.var 2) (.con (.int 1)))), .asg 5 (.call "_converter" [false, false, false] self [(.var 0), (.var 1), (.bop .Sub subD (.var 2) (.con (.int 1)))]), .asg 6 (.tup [(.con (.str [108, 101, 116])), (.bop .Add addD (.con (.str [120])) (.var 4)), (.bop .Add addD (.tup [(.con (.str [114, 119]))]) (.var 12)), (.tup [(.con (.str [97, 100, 100, 114, 101, 115, 115])), (.tup [(.bop .Add addD (.con (.str [99])) (.var 4)), (.con (.int 0))])])]), .iff (.cmp .Eq eqD (.ix (.var 1) (.bop .Sub subD (.var 2) (.con (.int 1)))) (.con (.str [114]))) [.asg 7 (.tup [(.con (.str [108, 101, 116])), (.bop .Add addD (.con (.str [99])) (.var 4)), (.var 12), (.tup [(.con (.str [118, 97, 108, 117, 101])), (.tup [(.bop .Add addD (.con (.str [120])) (.var 3)), (.con (.int 0))])])]), .asg 9 (.tup [(.con (.str [108, 101, 116])), (.bop .Add addD (.con (.str [121])) (.var 3)), (.bop .Add addD (.tup [(.con (.str [114, 119]))]) (.var 11)), (.tup [(.con (.str [118, 97, 108, 117, 101])), (.tup [(.bop .Add addD (.con (.str [121])) (.var 4)), (.con (.int 1))])])]), .ret (.fzz (.bop .Add addD (.bop .Add addD (.lst [(.var 7), (.var 6)]) (.var 5)) (.lst [(.var 9)])))] [], .asg 7 (.tup [(.con (.str [108, 101, 116])), (.bop .Add addD (.con (.str [99])) (.var 4)), (.bop .Add addD (.tup [(.con (.str [114, 119]))]) (.sl (.var 12) (some (.con (.int 1))) none)), (.call "_empty" [false] Ir._empty.fn [(.sl (.var 12) (some (.con (.int 1))) none)])]), .asg 8 (.tup [(.con (.str [112, 117, 116])), (.tup [(.bop .Add addD (.con (.str [121])) (.var 4)), (.con (.int 1))]), (.tup [(.con (.str [118, 97, 108, 117, 101])), (.tup [(.bop .Add addD (.con (.str [120])) (.var 3)), (.con (.int 0))])])]), .asg 9 (.tup [(.con (.str [108, 101, 116])), (.bop .Add addD (.con (.str [121])) (.var 3)), (.bop .Add addD (.tup [(.con (.str [114, 119]))]) (.var 11)), (.tup [(.con (.str [118, 97, 108, 117, 101])), (.tup [(.bop .Add addD (.con (.str [99])) (.var 4)), (.con (.int 0))])])]), .ret (.fzz (.bop .Add addD (.bop .Add addD (.lst [(.var 7), (.var 6)]) (.var 5)) (.lst [(.var 8), (.var 9)])))]⟩
noncomputable def _converterN : Nat → Fn
  | 0 => fun _ => .bad
  | n + 1 => (_converter (_converterN n)).fn
noncomputable def breaking : Def := ⟨11, [false, false], [.asg 2 (.call "bar" [false, false] Ir.bar.fn [(.var 0), (.var 1)]), .iff (.cmp .Is isD (.var 2) (.con .non)) [.ret (.con .non)] [], .asgT (.tp [(.nm 7), (.nm 8)]) (.var 2), .asg 3 (.call "_steps" [false, false, false] Ir._steps.fn [(.var 0), (.var 1), (.var 7)]), .asg 4 (.bi "len" lenD [(.var 7)]), .asg 5 (.ix (.con (.str [97, 98, 99, 100, 101, 102])) (.var 4)), .asgT (.tp [(.nm 9), (.nm 10)]) (.ix (.var 3) (.var 4)), .asg 6 (.lst [(.tup [(.con (.str [108, 101, 116])), (.con (.str [122])), (.var 9), (.call "_empty" [false] Ir._empty.fn [(.sl (.var 9) (some (.con (.int 1))) none)])]), (.tup [(.con (.str [108, 101, 116])), (.bop .Add addD (.con (.str [120])) (.var 5)), (.bop .Add addD (.tup [(.con (.str [114, 119]))]) (.var 9)), (.tup [(.con (.str [97, 100, 100, 114, 101, 115, 115])), (.tup [(.con (.str [122])), (.con (.int 0))])])])]), .ext 6 [] (.call "_converter" [false, false, false] (Ir._converterN 10) [(.var 3), (.var 7), (.var 4)]), .iff (.cmp .Eq eqD (.var 8) (.con (.str [119]))) [.app 6 [] (.tup [(.con (.str [112, 117, 116])), (.tup [(.bop .Add addD (.con (.str [121])) (.var 5)), (.con (.int 1))]), (.call "_empty" [false] Ir._empty.fn [(.sl (.var 10) (some (.con (.int 1))) none)])])] [.app 6 [] (.tup [(.con (.str [108, 101, 116])), (.con (.str [118])), (.bop .Add addD (.tup [(.con (.str [114, 119]))]) (.sl (.var 10) (some (.con (.int 1))) none)), (.tup [(.con (.str [118, 97, 108, 117, 101])), (.tup [(.bop .Add addD (.con (.str [121])) (.var 5)), (.con (.int 1))])])])], .ret (.fzz (.mk "Program" Ir.Program___init__.fn [(.lst []), (.var 6)]))]⟩
noncomputable def function_of : Def := ⟨3, [false, false], [.for_ (.nm 2) .val [(.var 0)] [.iff (.cmp .Eq eqD (.att (.var 2) ["Function"] "name") (.var 1)) [.ret (.var 2)] []], .ret (.con .non)]⟩
noncomputable def place_fault : Def := ⟨6, [true, false], [.asgT (.tp [(.nm 3), (.nm 4)]) (.var 1), .iff (.cmp .NotIn ninD (.var 3) (.var 0)) [.ret (.con (.str [117, 110, 107, 110, 111, 119, 110, 32, 110, 97, 109, 101]))] [], .asg 2 (.ix (.var 0) (.var 3)), .iff (.cmp .GtE geD (.var 4) (.bi "len" lenD [(.var 2)])) [.ret (.con (.str [116, 111, 111, 32, 109, 97, 110, 121, 32, 115, 116, 97, 114, 115]))] [], .iff (.nt (.bi "all" allB [(.lc (.nm 5) .val [(.sl (.var 2) none (some (.var 4)))] none (.cmp .In inD (.con (.str [114])) (.var 5)) [5])])) [.ret (.con (.str [109, 97, 121, 32, 110, 111, 116, 32, 114, 101, 97, 100]))] [], .ret (.con .non)]⟩
noncomputable def seen_type : Def := ⟨2, [true, false], [.ret (.fzz (.sl (.ix (.var 0) (.ix (.var 1) (.con (.int 0)))) (some (.ix (.var 1) (.con (.int 1)))) none))]⟩
noncomputable def _conversion_fault : Def := ⟨3, [false, false, false], [.iff (.cmp .NotEq neD (.bi "len" lenD [(.var 0)]) (.bi "len" lenD [(.var 1)])) [.ret (.con (.str [111, 116, 104, 101, 114, 32, 100, 101, 112, 116, 104]))] [], .iff (.orr [(.call "converts" [false, false] Ir.converts.fn [(.var 0), (.var 1)]), (.cmp .In inD (.tup [(.var 0), (.var 1)]) (.var 2))]) [.ret (.con .non)] [], .ret (.con (.str [110, 111, 32, 99, 111, 110, 118, 101, 114, 115, 105, 111, 110]))]⟩
noncomputable def source_fault : Def := ⟨6, [true, false, false, false], [.iff (.cmp .Eq eqD (.ix (.var 1) (.con (.int 0))) (.con (.str [110, 117, 109, 98, 101, 114]))) [.ret (.ife (.cmp .Eq eqD (.var 2) (.tup [])) (.con .non) (.con (.str [111, 116, 104, 101, 114, 32, 100, 101, 112, 116, 104])))] [], .iff (.cmp .Eq eqD (.ix (.var 1) (.con (.int 0))) (.con (.str [110, 117, 108, 108]))) [.ret (.ife (.cmp .NotEq neD (.var 2) (.tup [])) (.con .non) (.con (.str [111, 116, 104, 101, 114, 32, 100, 101, 112, 116, 104])))] [], .asg 4 (.call "place_fault" [true, false] Ir.place_fault.fn [(.var 0), (.ix (.var 1) (.con (.int 1)))]), .iff (.cmp .IsNot nisD (.var 4) (.con .non)) [.ret (.var 4)] [], .asg 5 (.call "seen_type" [true, false] Ir.seen_type.fn [(.var 0), (.ix (.var 1) (.con (.int 1)))]), .iff (.cmp .Eq eqD (.ix (.var 1) (.con (.int 0))) (.con (.str [97, 100, 100, 114, 101, 115, 115]))) [.ret (.call "_conversion_fault" [false, false, false] Ir._conversion_fault.fn [(.var 5), (.var 2), (.var 3)])] [], .iff (.cmp .NotIn ninD (.con (.str [114])) (.ix (.var 5) (.con (.int 0)))) [.ret (.con (.str [109, 97, 121, 32, 110, 111, 116, 32, 114, 101, 97, 100]))] [], .ret (.call "_conversion_fault" [false, false, false] Ir._conversion_fault.fn [(.sl (.var 5) (some (.con (.int 1))) none), (.var 2), (.var 3)])]⟩
noncomputable def _put_fault : Def := ⟨6, [true, false, false, false], [.asg 4 (.call "place_fault" [true, false] Ir.place_fault.fn [(.var 0), (.var 1)]), .iff (.cmp .IsNot nisD (.var 4) (.con .non)) [.ret (.var 4)] [], .asg 5 (.call "seen_type" [true, false] Ir.seen_type.fn [(.var 0), (.var 1)]), .iff (.cmp .NotIn ninD (.con (.str [119])) (.ix (.var 5) (.con (.int 0)))) [.ret (.con (.str [109, 97, 121, 32, 110, 111, 116, 32, 119, 114, 105, 116, 101]))] [], .ret (.call "source_fault" [true, false, false, false] Ir.source_fault.fn [(.var 0), (.var 2), (.sl (.var 5) (some (.con (.int 1))) none), (.var 3)])]⟩
noncomputable def statement_fault : Def := ⟨9, [false, true, false, false], [.iff (.cmp .Eq eqD (.ix (.var 2) (.con (.int 0))) (.con (.str [108, 101, 116]))) [.ret (.call "source_fault" [true, false, false, false] Ir.source_fault.fn [(.var 1), (.ix (.var 2) (.con (.int 3))), (.sl (.ix (.var 2) (.con (.int 2))) (some (.con (.int 1))) none), (.var 3)])] [], .iff (.cmp .Eq eqD (.ix (.var 2) (.con (.int 0))) (.con (.str [112, 117, 116]))) [.ret (.call "_put_fault" [true, false, false, false] Ir._put_fault.fn [(.var 1), (.ix (.var 2) (.con (.int 1))), (.ix (.var 2) (.con (.int 2))), (.var 3)])] [], .asg 4 (.call "function_of" [false, false] Ir.function_of.fn [(.var 0), (.ix (.var 2) (.con (.int 1)))]), .for_ (.tp [(.tp [(.nm 7), (.nm 8)]), (.nm 5)]) .zip [(.att (.var 4) ["Function"] "params"), (.ix (.var 2) (.con (.int 2)))] [.asg 6 (.call "source_fault" [true, false, false, false] Ir.source_fault.fn [(.var 1), (.var 5), (.sl (.var 8) (some (.con (.int 1))) none), (.var 3)]), .iff (.cmp .IsNot nisD (.var 6) (.con .non)) [.ret (.var 6)] []], .ret (.con .non)]⟩
noncomputable def block_faults : Def := ⟨9, [false, false, true, false, false], [.asg 5 (.lst []), .for_ (.tp [(.nm 6), (.nm 7)]) .enum [(.var 3)] [.asg 8 (.call "statement_fault" [false, true, false, false] Ir.statement_fault.fn [(.var 0), (.var 2), (.var 7), (.var 4)]), .iff (.cmp .IsNot nisD (.var 8) (.con .non)) [.app 5 [] (.tup [(.var 1), (.var 6), (.var 8)])] [], .iff (.cmp .Eq eqD (.ix (.var 7) (.con (.int 0))) (.con (.str [108, 101, 116]))) [.sto 2 [] (.ix (.var 7) (.con (.int 1))) (.ix (.var 7) (.con (.int 2)))] []], .ret (.var 5)]⟩
noncomputable def faults : Def := ⟨7, [false, false], [.asg 2 (.lst []), .for_ (.nm 3) .val [(.att (.var 0) ["Program"] "functions")] [.asg 4 (.dc (.tp [(.nm 5), (.nm 6)]) .val [(.att (.var 3) ["Function"] "params")] (.var 5) (.var 6) [5, 6]), .ext 2 [] (.call "block_faults" [false, false, true, false, false] Ir.block_faults.fn [(.att (.var 0) ["Program"] "functions"), (.att (.var 3) ["Function"] "name"), (.var 4), (.att (.var 3) ["Function"] "body"), (.var 1)])], .ret (.fzz (.bop .Add addD (.var 2) (.call "block_faults" [false, false, true, false, false] Ir.block_faults.fn [(.att (.var 0) ["Program"] "functions"), (.con (.str [])), .dnew, (.att (.var 0) ["Program"] "statements"), (.var 1)])))]⟩
noncomputable def is_let_by : Def := ⟨2, [false, false], [.ret (.nt (.call "faults" [false, false] Ir.faults.fn [(.var 0), (.var 1)]))]⟩
noncomputable def World___init__ : Def := ⟨1, [true], [.sta 0 "World" "things" (.lst []), .sta 0 "World" "breaches" (.lst []), .sta 0 "World" "executed" (.con (.int 0))]⟩
noncomputable def World_read : Def := ⟨3, [true, false], [.hk readS]⟩
noncomputable def _thing_at : Def := ⟨6, [true, true, false], [.asg 3 (.ix (.var 1) (.ix (.var 2) (.con (.int 0)))), .for_ (.nm 4) .rng1 [(.ix (.var 2) (.con (.int 1)))] [.asg 5 (.meth "World" "read" [false] Ir.World_read.fn 0 [(.var 3)]), .iff (.cmp .Is isD (.var 5) (.con .non)) [.ret (.con .non)] [], .asg 3 (.ix (.var 5) (.con (.int 1)))], .ret (.var 3)]⟩
noncomputable def _looked_up : Def := ⟨4, [true, true, false], [.iff (.cmp .Eq eqD (.ix (.var 2) (.con (.int 0))) (.con (.str [110, 117, 109, 98, 101, 114]))) [.ret (.fzz (.lst [(.ix (.var 2) (.con (.int 1)))]))] [], .iff (.cmp .Eq eqD (.ix (.var 2) (.con (.int 0))) (.con (.str [110, 117, 108, 108]))) [.ret (.fzz (.lst [(.con .non)]))] [], .asg 3 (.call "_thing_at" [true, true, false] Ir._thing_at.fn [(.var 0), (.var 1), (.ix (.var 2) (.con (.int 1)))]), .iff (.cmp .Is isD (.var 3) (.con .non)) [.ret (.con .non)] [], .iff (.cmp .Eq eqD (.ix (.var 2) (.con (.int 0))) (.con (.str [97, 100, 100, 114, 101, 115, 115]))) [.ret (.fzz (.lst [(.tup [(.con (.str [116, 104, 105, 110, 103])), (.var 3)])]))] [], .ret (.fzz (.lst [(.meth "World" "read" [false] Ir.World_read.fn 0 [(.var 3)])]))]⟩
noncomputable def _all_looked_up : Def := ⟨6, [true, true, false], [.asg 3 (.lst []), .for_ (.nm 4) .val [(.var 2)] [.asg 5 (.call "_looked_up" [true, true, false] Ir._looked_up.fn [(.var 0), (.var 1), (.var 4)]), .iff (.cmp .Is isD (.var 5) (.con .non)) [.ret (.con .non)] [], .ext 3 [] (.var 5)], .ret (.var 3)]⟩
noncomputable def Thing___init__ : Def := ⟨4, [true, false, false, false], [.sta 0 "Thing" "name" (.var 1), .sta 0 "Thing" "kind" (.var 2), .sta 0 "Thing" "value" (.var 3)]⟩
noncomputable def World_make : Def := ⟨4, [true, false, false, false], [.apq 0 [.f ["World"] "things"] (.mk "Thing" Ir.Thing___init__.fn [(.var 1), (.var 2), (.var 3)]), .ret (.bop .Sub subD (.lnp 0 [.f ["World"] "things"]) (.con (.int 1)))]⟩
noncomputable def World_write : Def := ⟨4, [true, false, false], [.hk writeS]⟩
noncomputable def _put : Def := ⟨6, [true, true, false, false], [.asg 4 (.call "_thing_at" [true, true, false] Ir._thing_at.fn [(.var 0), (.var 1), (.var 2)]), .iff (.cmp .Is isD (.var 4) (.con .non)) [.ret (.con (.bl false))] [], .asg 5 (.call "_looked_up" [true, true, false] Ir._looked_up.fn [(.var 0), (.var 1), (.var 3)]), .iff (.cmp .Is isD (.var 5) (.con .non)) [.ret (.con (.bl false))] [], .ex (.meth "World" "write" [false, false] Ir.World_write.fn 0 [(.var 4), (.ix (.var 5) (.con (.int 0)))]), .ret (.con (.bl true))]⟩
noncomputable def act_all (self : Fn) : Def := ⟨5, [true, false, true, false], [.for_ (.nm 4) .val [(.var 3)] [.iff (.nt (.call "act" [true, false, true, false] self [(.var 0), (.var 1), (.var 2), (.var 4)])) [.ret (.con (.bl false))] []], .ret (.con (.bl true))]⟩
noncomputable def _call (self : Fn) : Def := ⟨11, [true, false, true, false, false], [.asg 5 (.call "_all_looked_up" [true, true, false] Ir._all_looked_up.fn [(.var 0), (.var 2), (.var 4)]), .iff (.cmp .Is isD (.var 5) (.con .non)) [.ret (.con (.bl false))] [], .asg 6 (.call "function_of" [false, false] Ir.function_of.fn [(.var 1), (.var 3)]), .asg 7 .dnew, .for_ (.tp [(.tp [(.nm 9), (.nm 10)]), (.nm 8)]) .zip [(.att (.var 6) ["Function"] "params"), (.var 5)] [.sto 7 [] (.var 9) (.meth "World" "make" [false, false, false] Ir.World_make.fn 0 [(.var 9), (.var 10), (.var 8)])], .ret (.call "act_all" [true, false, true, false] self [(.var 0), (.var 1), (.var 7), (.att (.var 6) ["Function"] "body")])]⟩
noncomputable def act (self : Fn) : Def := ⟨5, [true, false, true, false], [.aga 0 "World" "executed" 1, .iff (.cmp .Gt gtD (.pth 0 [.f ["World"] "executed"]) (.glo "MOST_EXECUTED" Gv.MOST_EXECUTED)) [.rais "RightsError" reOf [(.con (.str [116, 111, 111, 32, 108, 111, 110, 103]))]] [], .iff (.cmp .Eq eqD (.ix (.var 3) (.con (.int 0))) (.con (.str [99, 97, 108, 108]))) [.ret (.call "_call" [true, false, true, false, false] self [(.var 0), (.var 1), (.var 2), (.ix (.var 3) (.con (.int 1))), (.ix (.var 3) (.con (.int 2)))])] [], .iff (.cmp .Eq eqD (.ix (.var 3) (.con (.int 0))) (.con (.str [112, 117, 116]))) [.ret (.call "_put" [true, true, false, false] Ir._put.fn [(.var 0), (.var 2), (.ix (.var 3) (.con (.int 1))), (.ix (.var 3) (.con (.int 2)))])] [], .asg 4 (.call "_looked_up" [true, true, false] Ir._looked_up.fn [(.var 0), (.var 2), (.ix (.var 3) (.con (.int 3)))]), .iff (.cmp .Is isD (.var 4) (.con .non)) [.ret (.con (.bl false))] [], .sto 2 [] (.ix (.var 3) (.con (.int 1))) (.meth "World" "make" [false, false, false] Ir.World_make.fn 0 [(.ix (.var 3) (.con (.int 1))), (.ix (.var 3) (.con (.int 2))), (.ix (.var 4) (.con (.int 0)))]), .ret (.con (.bl true))]⟩
noncomputable def actN : Nat → Fn
  | 0 => fun _ => .bad
  | n + 1 => (act ((_call ((act_all (actN n)).fn)).fn)).fn
noncomputable def act_allN (n : Nat) : Fn := (act_all (actN n)).fn
noncomputable def _callN (n : Nat) : Fn := (_call ((act_all (actN n)).fn)).fn
noncomputable def shown_things : Def := ⟨2, [false], [.ret (.fzz (.lc (.nm 1) .val [(.att (.var 0) ["World"] "things")] none (.tup [(.att (.var 1) ["Thing"] "name"), (.att (.var 1) ["Thing"] "kind"), (.att (.var 1) ["Thing"] "value")]) [1]))]⟩
noncomputable def run : Def := ⟨4, [false, false], [.iff (.nt (.call "is_let_by" [false, false] Ir.is_let_by.fn [(.var 0), (.var 1)])) [.rais "RightsError" reOf [(.con (.str [110, 111, 116, 32, 108, 101, 116, 32, 98, 121]))]] [], .asg 2 (.mk "World" Ir.World___init__.fn []), .asg 3 (.call "act_all" [true, false, true, false] (Ir.act_allN 10) [(.var 2), (.att (.var 0) ["Program"] "functions"), .dnew, (.att (.var 0) ["Program"] "statements")]), .ret (.tup [(.ife (.var 3) (.con (.str [100, 111, 110, 101])) (.con (.str [115, 116, 111, 112, 112, 101, 100]))), (.att (.var 2) ["World"] "breaches"), (.call "shown_things" [false] Ir.shown_things.fn [(.var 2)])])]⟩
noncomputable def is_breaking : Def := ⟨7, [false, false, false], [.asg 3 (.lst [(.tup [(.var 0), (.var 1)])]), .iff (.nt (.call "is_let_by" [false, false] Ir.is_let_by.fn [(.var 2), (.var 3)])) [.ret (.con (.bl false))] [], .tryC [.asgT (.tp [(.nm 4), (.nm 5), (.nm 6)]) (.call "run" [false, false] Ir.run.fn [(.var 2), (.var 3)])] "RightsError" (.con (.bl false)), .ret (.cmp .Gt gtD (.bi "len" lenD [(.var 5)]) (.con (.int 0)))]⟩
noncomputable def is_bar : Def := ⟨5, [false, false, false, false], [.for_ (.nm 4) .val [(.var 2)] [.iff (.orr [(.nt (.var 1)), (.cmp .NotIn ninD (.var 4) (.tup [(.con (.str [114])), (.con (.str [119]))])), (.cmp .NotIn ninD (.var 4) (.ix (.var 1) (.con (.int 0))))]) [.ret (.con (.bl false))] [], .asgT (.tp [(.nm 0), (.nm 1)]) (.ife (.cmp .Eq eqD (.var 4) (.con (.str [114]))) (.tup [(.sl (.var 0) (some (.con (.int 1))) none), (.sl (.var 1) (some (.con (.int 1))) none)]) (.tup [(.sl (.var 1) (some (.con (.int 1))) none), (.sl (.var 0) (some (.con (.int 1))) none)]))], .ret (.und [(.cmp .Gt gtD (.bi "len" lenD [(.var 1)]) (.con (.int 0))), (.cmp .In inD (.var 3) (.tup [(.con (.str [114])), (.con (.str [119]))])), (.cmp .In inD (.var 3) (.ix (.var 1) (.con (.int 0)))), (.cmp .NotIn ninD (.var 3) (.ix (.var 0) (.con (.int 0))))])]⟩
noncomputable def law : Def := ⟨11, [false], [.asg 1 (.lst [(.call "_law_row" [false, false, false] Ir._law_row.fn [(.var 0), (.con (.int 0)), (.con (.int 50))]), (.con (.int 0))]), .asg 2 (.lst []), .for_ (.nm 3) .rng1 [(.con (.int 10))] [.asgT (.tp [(.nm 7), (.nm 8)]) (.call "_law_pair" [true, false] Ir._law_pair.fn [(.var 1), (.con (.int 5))]), .asg 4 (.call "converts" [false, false] Ir.converts.fn [(.var 7), (.var 8)]), .asg 5 (.call "breaking" [false, false] Ir.breaking.fn [(.var 7), (.var 8)]), .asg 6 (.call "bar" [false, false] Ir.bar.fn [(.var 7), (.var 8)]), .iff (.orr [(.nt (.me "isinstance" (isiD "bool") (.var 4) [])), (.cmp .NotEq neD (.var 4) (.cmp .Is isD (.var 5) (.con .non))), (.cmp .NotEq neD (.var 4) (.cmp .Is isD (.var 6) (.con .non)))]) [.ret (.con (.bl false))] [], .iff (.cmp .IsNot nisD (.var 5) (.con .non)) [.iff (.orr [(.cmp .IsNot nisD (.call "is_breaking" [false, false, false] Ir.is_breaking.fn [(.var 7), (.var 8), (.var 5)]) (.con (.bl true))), (.cmp .IsNot nisD (.call "is_bar" [false, false, false, false] Ir.is_bar.fn [(.var 7), (.var 8), (.ix (.var 6) (.con (.int 0))), (.ix (.var 6) (.con (.int 1)))]) (.con (.bl true)))]) [.ret (.con (.bl false))] [], .app 2 [] (.var 5)] [.for_ (.nm 9) .val [(.sl (.var 2) (some (.uop .USub negD (.con (.int 3)))) none)] [.iff (.cmp .IsNot nisD (.call "is_breaking" [false, false, false] Ir.is_breaking.fn [(.var 7), (.var 8), (.var 9)]) (.con (.bl false))) [.ret (.con (.bl false))] []], .asg 10 (.call "_law_rights" [true, false] Ir._law_rights.fn [(.var 1), (.bi "len" lenD [(.var 7)])]), .iff (.orr [(.und [(.call "converts" [false, false] Ir.converts.fn [(.var 10), (.var 7)]), (.nt (.call "converts" [false, false] Ir.converts.fn [(.var 10), (.var 8)]))]), (.und [(.call "converts" [false, false] Ir.converts.fn [(.var 8), (.var 10)]), (.nt (.call "converts" [false, false] Ir.converts.fn [(.var 7), (.var 10)]))])]) [.ret (.con (.bl false))] []]], .ret (.con (.bl true))]⟩
end Ir
end

section
namespace Lw
open PySem Rx
theorem cell_ok (ns : List Int) (k : Nat) : Ir._law_cell.fn [some (.fz (.lk (ns.map D.int))), some (.fz (.int k))] = .ok (.fz (.int (ns.getD k 0))) [none, none] := by
  by_cases h : k < ns.length
  · simp [-R.bind, Ir._law_cell, fn_def, h]
  · simp [-R.bind, Ir._law_cell, fn_def, h]
/-- the law's box: the row of what is drawn from, the place -/
abbrev box (row : List Nat) (at_ : Nat) : OT := .lst [.fz (.lst (row.map intD)), .fz (intD at_)]
def drawn (row : List Nat) (at_ : Nat) (m : Nat) : Nat := (if at_ < row.length then row.getD at_ 0 else at_ * 5 + 1) % m
theorem draw_ok (row : List Nat) (k m : Nat) (hm : 0 < m) : Ir._law_draw.fn [some (box row k), some (.fz (.int m))] = .ok (.fz (intD (drawn row k m))) [some (box row (k + 1)), none] := by
  have hm2 : (0 : Int) < m := by omega
  by_cases h : k < row.length
  · simp [-R.bind, Ir._law_draw, fn_def, h, box, drawn, hm]
  · simp [-R.bind, Ir._law_draw, fn_def, h, box, drawn, hm, mulD_r]
theorem draw_okI (row : List Nat) (k : Nat) (m : Int) (hm : 0 < m) : Ir._law_draw.fn [some (box row k), some (.fz (.int m))] = .ok (.fz (intD (drawn row k m.toNat))) [some (box row (k + 1)), none] := by
  obtain ⟨n, rfl⟩ : ∃ n : Nat, m = n := ⟨m.toNat, by omega⟩
  exact draw_ok row k n (by omega)
theorem drawn_lt (row : List Nat) (k : Nat) {m : Nat} (hm : 0 < m) : drawn row k m < m := Nat.mod_lt _ hm
/-- a list of numbers that is being made -/
abbrev rowO (row : List Nat) : OT := .lst (row.map fun n : Nat => OT.fz (D.int (n : Int)))
theorem row_ok (ns : List Int) (m : Nat) (hm : m ≤ 1000) : ∃ row : List Nat, Ir._law_row.fn [some (.fz (.lk (ns.map D.int))), some (.fz (.int 0)), some (.fz (.int m))] = .ok (.fz (.lst (row.map intD))) [none, none, none] := by
  unfold Ir._law_row
  rw [fn_def]
  simp [-R.bind, rngO_nat (show m ≤ 8000000 by omega)]
  refine forGo_rule (P := fun r => ∃ row : List Nat, endOf [false, false, false] r = .ok (.fz (.lst (row.map intD))) [none, none, none])
    (fun i e => ∃ row s4 s5 s6, row.length ≤ 60 * i ∧ e = [some (.fz (.lk (ns.map D.int))), some (.fz (.int 0)), some (.fz (.int m)), some (rowO row), s4, s5, s6]) ⟨[], none, none, none, by simp [-R.bind], rfl⟩ ?_ ?_
  · rintro i d e hd ⟨row, s4, s5, s6, hl, rfl⟩
    simp [-R.bind] at hd
    obtain ⟨hi, rfl⟩ := hd
    refine ⟨_, rfl, ?_⟩
    have e1 : ∀ x : Int, ∃ c : Nat, (if 2 * x < 0 then -(2 * x) else 2 * x) + (if x < 0 then 1 else 0) = (c : Int) := fun x => ⟨_, (Int.toNat_of_nonneg (by split <;> split <;> omega)).symm⟩
    obtain ⟨c, hc⟩ := e1 (ns[i]?.getD 0)
    by_cases hb : (1000000000000000000 : Int) < c
    · simp [-R.bind, cell_ok, mulD_l, hc, hb, rngO_ok]
      refine forGo_rule0 (fun j e => ∃ (row : List Nat) (c : Nat) (s6 : Slot), row.length ≤ 60 * i + j ∧ e = [some (.fz (.lk (ns.map D.int))), some (.fz (.int 0)), some (.fz (.int m)), some (rowO row), some (.fz (.int i)), some (.fz (.int c)), s6]) ⟨row, c, s6, by omega, rfl⟩ ?_ ?_
      · rintro j d e hd ⟨row, c, s6, hl, rfl⟩
        simp [-R.bind] at hd
        obtain ⟨hj, rfl⟩ := hd
        refine ⟨_, rfl, ?_⟩
        have hz : row.length < sizeMax := by unfold sizeMax; omega
        by_cases h0 : 0 < c
        · simp [-R.bind, h0, fdivD_ok, hz]
          exact ⟨row ++ [c % 840], by simp [-R.bind]; omega, by simp [-R.bind], c / 840, by simp [-R.bind]⟩
        · simp [-R.bind, h0]
          exact ⟨row, by omega, rfl, c, rfl⟩
      · rintro e' ⟨row, c, s6, hl, rfl⟩
        simp [-R.bind] at hl ⊢
        exact ⟨row, by omega, rfl⟩
    · simp [-R.bind, cell_ok, mulD_l, hc, hb, rngO_ok]
      refine forGo_rule0 (fun j e => ∃ (row : List Nat) (c : Nat) (s6 : Slot), row.length ≤ 60 * i + j ∧ e = [some (.fz (.lk (ns.map D.int))), some (.fz (.int 0)), some (.fz (.int m)), some (rowO row), some (.fz (.int i)), some (.fz (.int c)), s6]) ⟨row, c, s6, by omega, rfl⟩ ?_ ?_
      · rintro j d e hd ⟨row, c, s6, hl, rfl⟩
        simp [-R.bind] at hd
        obtain ⟨hj, rfl⟩ := hd
        refine ⟨_, rfl, ?_⟩
        have hz : row.length < sizeMax := by unfold sizeMax; omega
        simp [-R.bind, fdivD_ok, hz, mulD_l, mulD_r]
        exact ⟨row ++ [(c * 69069 + 104729 * (i + j) + 1) % 4294967291 / 5003 % 840], by simp [-R.bind]; omega, by simp [-R.bind], (c * 69069 + 104729 * (i + j) + 1) % 4294967291, by simp [-R.bind]⟩
      · rintro e' ⟨row, c, s6, hl, rfl⟩
        simp [-R.bind] at hl ⊢
        exact ⟨row, by omega, rfl⟩
  · rintro e' ⟨row, s4, s5, s6, hl, rfl⟩
    exact ⟨row, by simp [-R.bind]⟩
end Lw
end

section
/-! the program: rights and types -/
namespace Pg
open PySem Rx
def isR : D → Bool
  | .str s => [[45], [114], [114, 119], [119]].any (· == s)
  | _ => false
theorem in_rights (s : List Nat) : inSeq (.str s) [.str [45], .str [114], .str [114, 119], .str [119]] = some (isR (.str s)) := rfl
def isVT : D → Bool
  | .tup xs => decide (xs.length ≤ 6) && xs.all isR
  | _ => false
def isT : D → Bool
  | .tup xs => decide (xs.length ≤ 6) && xs.all isR && decide (0 < xs.length)
  | _ => false
/-- a thing that has a type -/
def tyd (d : D) : Bool := d.ty.isSome
theorem isR_tyd {d : D} (h : isR d = true) : tyd d = true := by cases d <;> first | rfl | cases h
theorem is_right_ok (d : D) (h : tyd d = true) : Ir.is_right.fn [some (.fz d)] = .ok (.fz (.bl (isR d))) [none] := by
  cases d <;> first | (cases h; done) | skip
  case str s => simp [-R.bind, Ir.is_right, fn_def, isiD, isiB, D.ty, in_rights]
  all_goals simp [-R.bind, Ir.is_right, fn_def, isiD, isiB, D.ty, isR]
theorem bls_map {α : Type} (f : α → Bool) (l : List α) : blsOf (l.map fun x => D.bl (f x)) = some (l.map f) := by
  induction l with
  | nil => rfl
  | cons x l ih => simp [-R.bind, blsOf, ih]
theorem is_value_type_ok (d : D) (h : tyd d = true) (hx : ∀ xs, d = .tup xs → ∀ x ∈ xs, tyd x = true) : Ir.is_value_type.fn [some (.fz d)] = .ok (.fz (.bl (isVT d))) [none] := by
  cases d <;> first | (cases h; done) | skip
  case tup xs =>
    by_cases hl : xs.length ≤ 6
    · have hl2 : (xs.length : Int) ≤ 6 := by omega
      simp [-R.bind, Ir.is_value_type, fn_def, isiD, isiB, D.ty, isVT, hl, hl2, Gv.MOST_RIGHTS]
      rw [lc1_map1 (fun x => .fz (.bl (isR x)))]
      · simp [-R.bind, allB, bls_map]
      · rfl
      · intro x hm
        simp [-R.bind, is_right_ok x (hx xs rfl x hm)]
    · have hl2 : ¬ (xs.length : Int) ≤ 6 := by omega
      simp [-R.bind, Ir.is_value_type, fn_def, isiD, isiB, D.ty, isVT, hl, hl2, Gv.MOST_RIGHTS]
  all_goals simp [-R.bind, Ir.is_value_type, fn_def, isiD, isiB, D.ty, isVT]
theorem is_type_ok (d : D) (h : tyd d = true) (hx : ∀ xs, d = .tup xs → ∀ x ∈ xs, tyd x = true) : Ir.is_type.fn [some (.fz d)] = .ok (.fz (.bl (isT d))) [none] := by
  cases hv : isVT d with
  | false =>
    have : isT d = false := by cases d <;> first | rfl | (simp [-R.bind, isT, isVT] at hv ⊢; intro a b; exact absurd b (by simpa [-R.bind] using hv a))
    simp [-R.bind, Ir.is_type, fn_def, is_value_type_ok d h hx, hv, this]
  | true =>
    cases d <;> first | (cases hv; done) | skip
    rename_i xs
    have : isT (.tup xs) = decide (0 < xs.length) := by simp [-R.bind, isT, isVT] at hv ⊢; exact fun _ => hv
    simp [-R.bind, Ir.is_type, fn_def, is_value_type_ok _ h hx, hv, this]
end Pg
end

section
/-! the program: conversions -/
namespace Pg
open PySem Rx
/-- a right: reading, writing -/
structure Rt where
  r : Bool
  w : Bool
  deriving DecidableEq
def Rt.s : Rt → List Nat
  | ⟨false, false⟩ => [45]
  | ⟨true, false⟩ => [114]
  | ⟨true, true⟩ => [114, 119]
  | ⟨false, true⟩ => [119]
def Rt.d (x : Rt) : D := .str x.s
def tyD (a : List Rt) : D := .tup (a.map Rt.d)
@[simp] theorem r_in (x : Rt) : decide ((114 : Nat) ∈ x.s) = x.r := by rcases x with ⟨_ | _, _ | _⟩ <;> rfl
@[simp] theorem w_in (x : Rt) : decide ((119 : Nat) ∈ x.s) = x.w := by rcases x with ⟨_ | _, _ | _⟩ <;> rfl
def letD (b : Bool) : D := if b then .str [114] else .str [119]
/-- the first bar: the letters on the way (true: r), the letter -/
def find : List Rt → List Rt → Option (List Bool × Bool)
  | x :: a, y :: b =>
    if y.r && !x.r then some ([], true) else if y.w && !x.w then some ([], false)
    else match (if y.r then (find a b).map fun q => (true :: q.1, q.2) else none) with
      | some q => some q
      | none => if y.w then (find b a).map fun q => (false :: q.1, q.2) else none
  | _, _ => none
termination_by a b => a.length + b.length
def foundD : Option (List Bool × Bool) → D
  | none => .non
  | some (ls, l) => .tup [.lst (ls.map letD), letD l]
theorem find_len : ∀ (a b : List Rt) (q : List Bool × Bool), find a b = some q → q.1.length ≤ a.length + b.length
  | [], _, _, h => by simp [find] at h
  | _ :: _, [], _, h => by simp [find] at h
  | x :: a, y :: b, q, h => by
    rw [find] at h
    by_cases h1 : (y.r && !x.r) = true
    · rw [if_pos h1] at h; cases h; exact Nat.zero_le _
    · rw [if_neg h1] at h
      by_cases h2 : (y.w && !x.w) = true
      · rw [if_pos h2] at h; cases h; exact Nat.zero_le _
      · rw [if_neg h2] at h
        cases h3 : find a b with
        | some p =>
          have := find_len a b p h3
          cases h4 : find b a with
          | some p2 =>
            have := find_len b a p2 h4
            rw [h3, h4] at h
            cases hr : y.r <;> cases hw : y.w <;> rw [hr, hw] at h <;> simp at h <;> subst h <;> simp <;> omega
          | none =>
            rw [h3, h4] at h
            cases hr : y.r <;> cases hw : y.w <;> rw [hr, hw] at h <;> simp at h <;> subst h <;> simp <;> omega
        | none =>
          cases h4 : find b a with
          | some p2 =>
            have := find_len b a p2 h4
            rw [h3, h4] at h
            cases hr : y.r <;> cases hw : y.w <;> rw [hr, hw] at h <;> simp at h <;> subst h <;> simp <;> omega
          | none =>
            rw [h3, h4] at h
            cases hr : y.r <;> cases hw : y.w <;> rw [hr, hw] at h <;> simp at h
termination_by a b => a.length + b.length
set_option maxHeartbeats 1000000 in
theorem find_ok : ∀ (n : Nat) (a b : List Rt), a.length = b.length → a.length < n → n ≤ 1000 → Ir._findN n [some (.fz (tyD a)), some (.fz (tyD b))] = .ok (.fz (foundD (find a b))) [none, none]
  | 0, _, _, _, h, _ => absurd h (Nat.not_lt_zero _)
  | n + 1, [], [], _, _, _ => by
    simp [-R.bind, Ir._findN, Ir._find, fn_def, tyD, find, foundD]
  | n + 1, x :: a, y :: b, hl, hn, h1000 => by
    have ih1 := find_ok n a b (by simpa using hl) (by simpa using hn) (by omega)
    have ih2 := find_ok n b a (by simpa using hl.symm) (by simp at hl hn; omega) (by omega)
    have c1 : ∀ (z : Rt) (l : List Rt), cut (D.str z.s :: l.map Rt.d) (some 1) none = l.map Rt.d := fun z l => by
      show (List.take _ _).drop 1 = _
      rw [show bnd (D.str z.s :: l.map Rt.d).length (D.str z.s :: l.map Rt.d).length none = (D.str z.s :: l.map Rt.d).length from rfl, List.take_length]; rfl
    have c2 : ∀ (z : Rt) (l : List Rt), slD (.tup (D.str z.s :: l.map Rt.d)) (some 1) none = some (.fz (tyD l)) := fun z l => by
      show some (OT.fz (.tup (cut _ _ _))) = _
      rw [c1]; rfl
    have c3 : ∀ (z : Rt) (l : List Rt), getI (D.str z.s :: l.map Rt.d) 0 = some (D.str z.s) := fun z l => by simp [-R.bind]
    have hx : ∀ (b1 : Bool), ∀ z : Rt, inD (letD b1) (D.str z.s) = some (if b1 then z.r else z.w) := fun b1 z => by
      cases b1 <;> rcases z with ⟨_ | _, _ | _⟩ <;> rfl
    have hxr : ∀ z : Rt, inD (.str [114]) (D.str z.s) = some z.r := hx true
    have hxw : ∀ z : Rt, inD (.str [119]) (D.str z.s) = some z.w := hx false
    unfold Ir._findN Ir._find
    rw [fn_def]
    have ix1 : Ir._findN n [some (.fz (.tup (a.map Rt.d))), some (.fz (.tup (b.map Rt.d)))] = Out.ok (OT.fz (foundD (find a b))) [none, none] := ih1
    have ix2 : Ir._findN n [some (.fz (.tup (b.map Rt.d))), some (.fz (.tup (a.map Rt.d)))] = Out.ok (OT.fz (foundD (find b a))) [none, none] := ih2
    have c4 : ∀ (z : Rt) (l : List Rt), slD (.tup (D.str z.s :: l.map Rt.d)) (some 1) none = some (.fz (.tup (l.map Rt.d))) := c2
    clear ih1 ih2 c2 hx c1
    have hf : find (x :: a) (y :: b) = if y.r && !x.r then some ([], true) else if y.w && !x.w then some ([], false)
    else match (if y.r then (find a b).map fun q => (true :: q.1, q.2) else none) with
      | some q => some q
      | none => if y.w then (find b a).map fun q => (false :: q.1, q.2) else none := by rw [find]
    rw [hf]
    have hab : a.length + b.length < 2002 := by simp at hl hn; omega
    have z1 : ∀ q, find a b = some q → 1 + q.1.length ≤ 16777216 := fun q h => by have := find_len a b q h; omega
    have z2 : ∀ q, find b a = some q → 1 + q.1.length ≤ 16777216 := fun q h => by have := find_len b a q h; omega
    cases h5 : find a b with
    | none =>
      cases h6 : find b a with
      | none =>
        simp [-R.bind, -inD_str, tyD, Rt.d, forGo_nm, forGo_nil, c3, hxr, hxw, c4, ix1, ix2, h5, h6, foundD, letD, nisD, isD, sizeMax, pb_bind, pb_st, pb_sq, pb_end, pb_lp]
        cases y.r <;> cases y.w <;> cases x.r <;> cases x.w <;> rfl
      | some q =>
        have w2 := z2 _ h6
        simp [-R.bind, -inD_str, tyD, Rt.d, forGo_nm, forGo_nil, c3, hxr, hxw, c4, ix1, ix2, h5, h6, foundD, letD, nisD, isD, sizeMax, pb_bind, pb_st, pb_sq, pb_end, pb_lp, w2]
        cases y.r <;> cases y.w <;> cases x.r <;> cases x.w <;> rfl
    | some p =>
      have w1 := z1 _ h5
      cases h6 : find b a with
      | none =>
        simp [-R.bind, -inD_str, tyD, Rt.d, forGo_nm, forGo_nil, c3, hxr, hxw, c4, ix1, ix2, h5, h6, foundD, letD, nisD, isD, sizeMax, pb_bind, pb_st, pb_sq, pb_end, pb_lp, w1]
        cases y.r <;> cases y.w <;> cases x.r <;> cases x.w <;> rfl
      | some q =>
        have w2 := z2 _ h6
        simp [-R.bind, -inD_str, tyD, Rt.d, forGo_nm, forGo_nil, c3, hxr, hxw, c4, ix1, ix2, h5, h6, foundD, letD, nisD, isD, sizeMax, pb_bind, pb_st, pb_sq, pb_end, pb_lp, w1, w2]
        cases y.r <;> cases y.w <;> cases x.r <;> cases x.w <;> rfl
end Pg
end

section
/-! the laws' own types -/
namespace Lw
open PySem Rx Pg
def R6 (k : Nat) : Rt := [⟨true, true⟩, ⟨true, true⟩, ⟨true, false⟩, ⟨false, true⟩, ⟨false, false⟩, ⟨true, true⟩].getD k ⟨false, false⟩
def RS (row : List Nat) (k n : Nat) : List Rt := (List.range n).map fun i => R6 (drawn row (k + i) 6)
@[simp] theorem RS_len (row : List Nat) (k n : Nat) : (RS row k n).length = n := by simp [RS]
/-! conversion, as the law has it -/
def wi (x y : Rt) : Bool := (!x.r || y.r) && (!x.w || y.w)
def conv : List Rt → List Rt → Bool
  | [], [] => true
  | x :: a, y :: b => wi y x && (!y.r || conv a b) && (!y.w || conv b a)
  | _, _ => false
termination_by a b => a.length + b.length
theorem conv_cons (x y : Rt) (a b : List Rt) : conv (x :: a) (y :: b) = (wi y x && (!y.r || conv a b) && (!y.w || conv b a)) := by rw [conv]
@[simp] theorem conv_nil : conv [] [] = true := by rw [conv]
theorem conv_len : ∀ (a b : List Rt), conv a b = true → a.length = b.length → True := fun _ _ _ _ => trivial
theorem tail_ty (x : Rt) (a : List Rt) : slD (tyD (x :: a)) (some 1) none = some (.fz (tyD a)) := by
  show some (OT.fz (.tup ((List.take ((x :: a).map Rt.d).length ((x :: a).map Rt.d)).drop 1))) = _
  rw [List.take_length]; rfl
theorem head_ty (x : Rt) (a : List Rt) : ixK (tyD (x :: a)) (.int 0) = some x.d := rfl
theorem len_ty (a : List Rt) : lenD [tyD a] = some (.fz (.int a.length)) := by simp [tyD]
theorem in_r (x : Rt) : inD (.str [114]) x.d = some x.r := by simp [Rt.d]
theorem in_w (x : Rt) : inD (.str [119]) x.d = some x.w := by simp [Rt.d]
theorem conv_find : ∀ (a b : List Rt), a.length = b.length → (find a b = none ↔ conv a b = true)
  | [], [], _ => by simp [find]
  | x :: a, y :: b, h => by
    have i1 := conv_find a b (by simpa using h)
    have i2 := conv_find b a (by simpa using h.symm)
    rw [conv_cons, find]
    cases h1 : find a b <;> cases h2 : find b a <;> cases h3 : conv a b <;> cases h4 : conv b a <;> simp [h1, h2, h3, h4] at i1 i2 <;> rcases x with ⟨_ | _, _ | _⟩ <;> rcases y with ⟨_ | _, _ | _⟩ <;> simp [wi]
termination_by a b => a.length + b.length
/-- a type's rights in a list that is being made -/
abbrev rtsO (a : List Rt) : OT := .lst (a.map fun x => .fz x.d)
theorem list_ty (a : List Rt) : listB [tyD a] = some (rtsO a) := by
  show some (OT.lst ((a.map Rt.d).map .fz)) = _
  rw [List.map_map]; rfl
theorem tup_ty (a : List Rt) : tupB [.lst (a.map Rt.d)] = some (.fz (tyD a)) := rfl
theorem flat_rts (a : List Rt) : (rtsO a).flat = some (.lst (a.map Rt.d)) := by simp [-R.bind]
theorem sto_rts (a : List Rt) (j : Nat) (c : Rt) (h : j < a.length) : stoO (.int j) (.fz c.d) (rtsO a) = some (rtsO (a.set j c)) := by
  simp [-R.bind, stoO, plc_nat, h, List.map_set]
end Lw
end

section
/-! the laws' own types, as the law makes and judges them -/
namespace Lw
open PySem Rx Pg
theorem right_ok (row : List Nat) (k : Nat) : Ir._law_right.fn [some (box row k)] = .ok (.fz (R6 (drawn row k 6)).d) [some (box row (k + 1))] := by
  have h := drawn_lt row k (m := 6) (by omega)
  generalize hm : drawn row k 6 = m at h
  have hc : m = 0 ∨ m = 1 ∨ m = 2 ∨ m = 3 ∨ m = 4 ∨ m = 5 := by omega
  rcases hc with rfl | rfl | rfl | rfl | rfl | rfl <;> simp [-R.bind, Ir._law_right, fn_def, draw_okI, hm, R6, Rt.d, Rt.s]
theorem rights_ok (row : List Nat) (k : Nat) (n : Int) (h0 : 0 ≤ n) (hn : n ≤ 100000) : Ir._law_rights.fn [some (box row k), some (.fz (.int n))] = .ok (.fz (tyD (RS row k n.toNat))) [some (box row (k + n.toNat)), none] := by
  obtain ⟨n, rfl⟩ : ∃ m : Nat, n = m := ⟨n.toNat, by omega⟩
  simp [-R.bind, Ir._law_rights, fn_def, rngO_nat (show n ≤ 8000000 by omega)]
  obtain ⟨acc, e', h1, h2, h3, h4⟩ := lc1_ok (j := 2) (mc := M.pure true) (me := M.bind (evArgs [true] [.var 0]) fun as => callF Ir._law_right.fn as) (xs := rngD 0 n) (e := [some (box row k), some (OT.fz (D.int n)), none])
    (fun i acc e => acc = (RS row k i).map Rt.d ∧ ∃ s, e = [some (box row (k + i)), some (OT.fz (D.int n)), s]) rfl ⟨rfl, none, rfl⟩ (by
      rintro i d acc e hd ⟨rfl, s, rfl⟩
      simp [-R.bind] at hd
      obtain ⟨hi, rfl⟩ := hd
      exact ⟨true, _, rfl, fun _ => ⟨.fz (R6 (drawn row (k + i) 6)).d, [some (box row (k + (i + 1))), some (OT.fz (D.int n)), some (.fz (.int i))], by simp [-R.bind, right_ok, Int.add_assoc], by simp [RS, List.range_succ], _, rfl⟩, fun h => nomatch h⟩)
  simp [-R.bind] at h1 h4
  rw [h1]
  subst h4 h2
  simp [-R.bind, tupB, tyD]
end Lw
end

section
/-! conversion is a preorder -/
namespace Pg
open PySem Rx Lw
theorem wi_refl' (x : Rt) : wi x x = true := by rcases x with ⟨_ | _, _ | _⟩ <;> rfl
theorem conv_refl' : ∀ t : List Rt, conv t t = true
  | [] => conv_nil
  | x :: t => by rw [conv_cons, wi_refl', conv_refl' t]; cases x.r <;> cases x.w <;> rfl
theorem conv_trans' : ∀ (a b c : List Rt), a.length = b.length → b.length = c.length → conv a b = true → conv b c = true → conv a c = true
  | [], [], [], _, _, _, _ => conv_nil
  | x :: a, y :: b, z :: c, h1, h2, p, q => by
    have h1 : a.length = b.length := by simpa using h1
    have h2 : b.length = c.length := by simpa using h2
    have i1 := conv_trans' a b c h1 h2
    have i2 := conv_trans' c b a h2.symm h1.symm
    rw [conv_cons] at p q ⊢
    revert p q i1 i2
    generalize conv a b = u1
    generalize conv b a = u2
    generalize conv b c = u3
    generalize conv c b = u4
    generalize conv a c = u5
    generalize conv c a = u6
    rcases x with ⟨_ | _, _ | _⟩ <;> rcases y with ⟨_ | _, _ | _⟩ <;> rcases z with ⟨_ | _, _ | _⟩ <;> simp [wi] <;> cases u1 <;> cases u2 <;> cases u3 <;> cases u4 <;> simp_all
  termination_by a => a.length
  decreasing_by all_goals simp_all; try omega
end Pg
end

section
/-! programs, as data -/
namespace Pg
open PySem Rx
abbrev Nm := List Nat
inductive Src where
  | num (n : Nat) | null | val (x : Nm) (k : Nat) | adr (x : Nm) (k : Nat)
inductive St where
  | lt (x : Nm) (t : List Rt) (s : Src) | pt (x : Nm) (k : Nat) (s : Src) | cl (f : Nm) (ss : List Src)
structure Fc where
  name : Nm
  params : List (Nm × List Rt)
  body : List St
structure Prg where
  funs : List Fc
  stmts : List St
abbrev kNumber : D := .str [110, 117, 109, 98, 101, 114]
abbrev kNull : D := .str [110, 117, 108, 108]
abbrev kValue : D := .str [118, 97, 108, 117, 101]
abbrev kAddress : D := .str [97, 100, 100, 114, 101, 115, 115]
abbrev kLet : D := .str [108, 101, 116]
abbrev kPut : D := .str [112, 117, 116]
abbrev kCall : D := .str [99, 97, 108, 108]
def plD (x : Nm) (k : Nat) : D := .tup [.str x, .int k]
def srcD : Src → D
  | .num n => .tup [kNumber, .int n]
  | .null => .tup [kNull]
  | .val x k => .tup [kValue, plD x k]
  | .adr x k => .tup [kAddress, plD x k]
def stD : St → D
  | .lt x t s => .tup [kLet, .str x, tyD t, srcD s]
  | .pt x k s => .tup [kPut, plD x k, srcD s]
  | .cl f ss => .tup [kCall, .str f, .lst (ss.map srcD)]
def parD (p : Nm × List Rt) : D := .tup [.str p.1, tyD p.2]
/-- a function as the law has it -/
def fcL (f : Fc) : D := .lst [.str f.name, .lst (f.params.map parD), .lst (f.body.map stD)]
/-- a Function -/
def fcD (f : Fc) : D := .ins "Function" [("name", .str f.name), ("params", .lst (f.params.map parD)), ("body", .lst (f.body.map stD))]
def prL (p : Prg) : D := .lst [.lst (p.funs.map fcL), .lst (p.stmts.map stD)]
def prD (p : Prg) : D := .ins "Program" [("functions", .lst (p.funs.map fcD)), ("statements", .lst (p.stmts.map stD))]
theorem att_name (f : Fc) : attD (fcD f) ["Function"] "name" = some (.str f.name) := rfl
theorem att_params (f : Fc) : attD (fcD f) ["Function"] "params" = some (.lst (f.params.map parD)) := rfl
theorem att_body (f : Fc) : attD (fcD f) ["Function"] "body" = some (.lst (f.body.map stD)) := rfl
theorem att_functions (p : Prg) : attD (prD p) ["Program"] "functions" = some (.lst (p.funs.map fcD)) := rfl
theorem att_statements (p : Prg) : attD (prD p) ["Program"] "statements" = some (.lst (p.stmts.map stD)) := rfl
theorem isiC_fc (f : Fc) (ds : List D) : isiC "Function" (fcD f) ds = some (.fz (.bl true)) := rfl
/-! ### what they are -/
def nameOk (x : Nm) : Bool := decide (1 ≤ x.length) && decide (x.length ≤ 8) && (x != [110, 117, 108, 108]) && x.all fun c => decide (97 ≤ c) && decide (c ≤ 122)
def typeOk (t : List Rt) : Bool := decide (0 < t.length) && decide (t.length ≤ 6)
def srcOk : Src → Bool
  | .num n => decide (n ≤ 1000)
  | .null => true
  | .val x k => nameOk x && decide (k ≤ 5)
  | .adr x k => nameOk x && decide (k ≤ 5)
def stOk : St → Bool
  | .lt x t s => nameOk x && typeOk t && srcOk s
  | .pt x k s => nameOk x && decide (k ≤ 5) && srcOk s
  | .cl f ss => nameOk f && ss.all srcOk
def lets : List St → List Nm
  | [] => []
  | .lt x _ _ :: r => x :: lets r
  | _ :: r => lets r
/-- calls are of these functions, with as many sources as they have parameters -/
def callOk (fs : List Fc) : St → Bool
  | .cl f ss => (match (fs.map fun g => (g.name, g.params.length)).lookup f with
    | some n => n == ss.length
    | none => false)
  | _ => true
def callsOk (fs : List Fc) (l : List St) : Bool := l.all (callOk fs)
def fcOk (f : Fc) : Bool := nameOk f.name && decide (f.params.length ≤ 4) && (f.params.all fun p => nameOk p.1 && typeOk p.2) && decide (f.body.length ≤ 12) && f.body.all stOk
def namesOf (p : Prg) : List Nm := (p.funs.flatMap fun f => f.params.map (·.1) ++ lets f.body) ++ lets p.stmts
structure Ok (p : Prg) : Prop where
  few : p.funs.length ≤ 4
  funs : ∀ f ∈ p.funs, fcOk f = true
  most : p.stmts.length ≤ 40
  stmts : ∀ s ∈ p.stmts, stOk s = true
  nodup : (p.funs.map (·.name) ++ namesOf p).Nodup
  body : ∀ i (f : Fc), p.funs[i]? = some f → callsOk (p.funs.take i) f.body = true
  calls : callsOk p.funs p.stmts = true
theorem lookD_map {α : Type} (k : α → Nm) (v : α → D) (l : List α) (x : Nm) : lookD (l.map fun f => (D.str (k f), v f)) (.str x) = (l.map fun f => (k f, v f)).lookup x := by
  induction l with
  | nil => rfl
  | cons a l ih =>
    show (if D.str (k a) = D.str x then some (v a) else lookD _ _) = _
    rw [List.map_cons, List.lookup_cons]
    by_cases h : k a = x
    · subst h; simp
    · have h2 : ¬ (D.str (k a) = D.str x) := fun e => h (D.str.inj e)
      have h3 : (x == k a) = false := by simpa using fun e => h e.symm
      rw [if_neg h2, h3]; exact ih
end Pg
end

section
/-! the program: forms -/
namespace Pg
open PySem Rx
theorem is_number_ok (n : Nat) (m : Int) : Ir.is_number.fn [some (.fz (.int n)), some (.fz (.int m))] = .ok (.fz (.bl (decide ((n : Int) ≤ m)))) [none, none] := by
  simp [-R.bind, Ir.is_number, fn_def, isiD, isiB, D.ty]
theorem in_letters (c : Nat) : inD (.str [c]) Gv.LETTERS = some (decide (97 ≤ c) && decide (c ≤ 122)) := by
  show some (decide (c ∈ _)) = _
  congr 1
  by_cases h : 97 ≤ c ∧ c ≤ 122
  · obtain ⟨h1, h2⟩ := h
    have : ∃ d : Nat, c = 97 + d ∧ d < 26 := ⟨c - 97, by omega, by omega⟩
    obtain ⟨d, rfl, hd⟩ := this
    have : ∀ d : Fin 26, decide (97 + d.val ∈ [97, 98, 99, 100, 101, 102, 103, 104, 105, 106, 107, 108, 109, 110, 111, 112, 113, 114, 115, 116, 117, 118, 119, 120, 121, 122]) = true := by decide
    rw [decide_eq_true h1, decide_eq_true h2]
    exact this ⟨d, hd⟩
  · have h2 : (decide (97 ≤ c) && decide (c ≤ 122)) = false := by
      simp; omega
    rw [h2, decide_eq_false]
    intro hm
    apply h
    simp at hm
    omega
theorem is_name_ok (x : Nm) : Ir.is_name.fn [some (.fz (.str x))] = .ok (.fz (.bl (nameOk x))) [none] := by
  have e1 : ((1 : Int) ≤ (x.length : Int)) ↔ 1 ≤ x.length := by omega
  have e2 : ((x.length : Int) ≤ 8) ↔ x.length ≤ 8 := by omega
  have hb : allB [.lst (x.map fun c => D.bl (decide (97 ≤ c) && decide (c ≤ 122)))] = some (.fz (.bl (x.all fun c => decide (97 ≤ c) && decide (c ≤ 122)))) := by
    show (blsOf _).map _ = _
    rw [bls_map]; simp [Function.comp_def]
  by_cases h1 : 1 ≤ x.length
  · by_cases h2 : x.length ≤ 8
    · by_cases h3 : x = [110, 117, 108, 108]
      · subst h3
        simp [-R.bind, Ir.is_name, fn_def, isiD, isiB, D.ty, Gv.LONGEST_NAME, nameOk]
      · simp [-R.bind, Ir.is_name, fn_def, isiD, isiB, D.ty, Gv.LONGEST_NAME, nameOk, h1, h2, h3, e1, e2]
        rw [lc1_map1 (fun d => .fz (.bl (match d with | .str [c] => decide (97 ≤ c) && decide (c ≤ 122) | _ => false)))]
        · simp [-R.bind, Function.comp_def, hb, h3]
        · rfl
        · intro d hd
          simp only [List.mem_map] at hd
          obtain ⟨c, hc, rfl⟩ := hd
          simp [-R.bind, -inD_str, in_letters]
    · simp [-R.bind, Ir.is_name, fn_def, isiD, isiB, D.ty, Gv.LONGEST_NAME, nameOk, h1, h2, e1, e2]
  · simp [-R.bind, Ir.is_name, fn_def, isiD, isiB, D.ty, Gv.LONGEST_NAME, nameOk, h1, e1]
theorem is_place_ok (x : Nm) (k : Nat) : Ir.is_place.fn [some (.fz (plD x k))] = .ok (.fz (.bl (nameOk x && decide (k ≤ 5)))) [none] := by
  have e1 : ((k : Int) ≤ 5) ↔ k ≤ 5 := by omega
  simp [-R.bind, Ir.is_place, fn_def, isiD, isiB, D.ty, plD, is_name_ok, is_number_ok, Gv.MOST_STARS, e1, pb_bind, pb_st, pb_end]
  cases nameOk x <;> rfl
theorem eq_null (s : Src) : eqD (srcD s) (.tup [kNull]) = some (match s with | .null => true | _ => false) := by
  cases s <;> simp [eqD, srcD, plD, D.eqok, D.eqoks, D.eqv, D.eqvs]
theorem is_source_ok (s : Src) : Ir.is_source.fn [some (.fz (srcD s))] = .ok (.fz (.bl (srcOk s))) [none] := by
  have e1 : ∀ n : Nat, ((n : Int) ≤ 1000) ↔ n ≤ 1000 := fun n => by omega
  have h := eq_null s
  cases s with
  | num n => simp [-R.bind, Ir.is_source, fn_def, h, isiD, isiB, D.ty, is_number_ok, srcOk, Gv.MOST_NUMBER, e1]; simp [-R.bind, srcD, isiD, isiB, D.ty, is_number_ok, e1]
  | null => simp [-R.bind, Ir.is_source, fn_def, h, srcOk]
  | val x k => simp [-R.bind, Ir.is_source, fn_def, h, srcOk]; simp [-R.bind, srcD, isiD, isiB, D.ty, is_place_ok, inSeq, D.eqok, D.eqoks]
  | adr x k => simp [-R.bind, Ir.is_source, fn_def, h, srcOk]; simp [-R.bind, srcD, isiD, isiB, D.ty, is_place_ok, inSeq, D.eqok, D.eqoks]
theorem isR_rt (x : Rt) : isR x.d = true := by rcases x with ⟨_ | _, _ | _⟩ <;> rfl
theorem is_type_ty (t : List Rt) : Ir.is_type.fn [some (.fz (tyD t))] = .ok (.fz (.bl (typeOk t))) [none] := by
  have h := is_type_ok (tyD t) rfl (fun xs e => by
    cases e
    intro x hx
    obtain ⟨y, _, rfl⟩ := List.mem_map.mp hx
    rfl)
  rw [h]
  congr 3
  have : (t.map Rt.d).all isR = true := by
    rw [List.all_eq_true]
    intro d hd
    obtain ⟨y, _, rfl⟩ := List.mem_map.mp hd
    exact isR_rt y
  show (decide ((t.map Rt.d).length ≤ 6) && (t.map Rt.d).all isR && decide (0 < (t.map Rt.d).length)) = _
  rw [this]
  simp [typeOk, Bool.and_comm]
theorem is_statement_ok (s : St) : Ir.is_statement.fn [some (.fz (stD s)), some (.fz (.fn "is_type"))] = .ok (.fz (.bl (stOk s))) [none, none] := by
  cases s with
  | lt x t s =>
    simp [-R.bind, Ir.is_statement, fn_def, stD, isiD, isiB, D.ty, is_name_ok, is_type_ty, is_source_ok, stOk, pb_bind, pb_st, pb_sq, pb_end]
    cases nameOk x <;> cases typeOk t <;> rfl
  | pt x k s =>
    simp [-R.bind, Ir.is_statement, fn_def, stD, isiD, isiB, D.ty, is_place_ok, is_source_ok, stOk, pb_bind, pb_st, pb_sq, pb_end]
    cases nameOk x <;> cases decide (k ≤ 5) <;> rfl
  | cl f ss =>
    simp [-R.bind, Ir.is_statement, fn_def, stD, isiD, isiB, D.ty, is_name_ok, stOk, pb_bind, pb_st, pb_sq, pb_end]
    rw [lc1_map1 (fun d => .fz (.bl (match Ir.is_source.fn [some (.fz d)] with | .ok (.fz (.bl b)) _ => b | _ => false)))]
    · have : blsOf ((ss.map srcD).map fun d => D.bl (match Ir.is_source.fn [some (.fz d)] with | .ok (.fz (.bl b)) _ => b | _ => false)) = some (ss.map srcOk) := by
        rw [List.map_map]
        have := bls_map srcOk ss
        simpa [Function.comp_def, is_source_ok] using this
      simp [-R.bind, -List.map_map, allB, this]
      cases nameOk f <;> rfl
    · rfl
    · intro d hd
      obtain ⟨s, _, rfl⟩ := List.mem_map.mp hd
      simp [-R.bind, is_source_ok]
end Pg
end

section
/-! the program: Program is made -/
namespace Pg
open PySem Rx
theorem get_map {α β : Type} {f : α → β} {l : List α} {i : Nat} {d : β} (h : (l.map f)[i]? = some d) : ∃ s, l[i]? = some s ∧ f s = d := by
  rw [List.getElem?_map] at h
  exact Option.map_eq_some_iff.mp h
theorem all_true {α : Type} {l : List α} {f : α → Bool} (h : ∀ x ∈ l, f x = true) : l.map (fun x => D.bl (f x)) = l.map fun _ => D.bl true := by
  apply List.map_congr_left
  intro x hx; rw [h x hx]
theorem is_block_ok (l : List St) (m : Nat) (h : ∀ s ∈ l, stOk s = true) (hm : l.length ≤ m) : Ir._is_block.fn [some (.fz (.lst (l.map stD))), some (.fz (.int m)), some (.fz (.fn "is_type"))] = .ok (.fz (.bl true)) [none, none, none] := by
  have e1 : ¬ ((m : Int) < (l.length : Int)) := by omega
  simp [-R.bind, Ir._is_block, fn_def, isiD, isiB, D.ty, e1]
  rw [lc1_map1 (fun d => .fz (.bl true))]
  · simp [-R.bind, -List.map_map]
    rw [blsOf_all]
    · simp [-R.bind]
    · intro d hd; obtain ⟨_, _, rfl⟩ := List.mem_map.mp hd; rfl
  · rfl
  · intro d hd
    obtain ⟨s, hs, rfl⟩ := List.mem_map.mp hd
    simp [-R.bind, is_statement_ok, h s hs]
theorem is_parameter_ok (p : Nm × List Rt) (h1 : nameOk p.1 = true) (h2 : typeOk p.2 = true) : Ir._is_parameter.fn [some (.fz (parD p)), some (.fz (.fn "is_type"))] = .ok (.fz (.bl true)) [none, none] := by
  simp [-R.bind, Ir._is_parameter, fn_def, parD, isiD, isiB, D.ty, is_name_ok, h1, h2, is_type_ty]
theorem is_function_ok (f : Fc) (h : fcOk f = true) : Ir._is_function.fn [some (.fz (fcD f)), some (.fz (.fn "is_type"))] = .ok (.fz (.bl true)) [none, none] := by
  simp only [fcOk, Bool.and_eq_true, decide_eq_true_eq, List.all_eq_true] at h
  obtain ⟨⟨⟨⟨h1, h2⟩, h3⟩, h4⟩, h5⟩ := h
  have e1 : ¬ ((4 : Int) < (f.params.length : Int)) := by omega
  simp [-R.bind, Ir._is_function, fn_def, att_name, att_params, att_body, isiC_fc, is_name_ok, h1, Gv.MOST_PARAMETERS, e1]
  rw [lc1_map1 (fun d => .fz (.bl true))]
  · simp [-R.bind, -List.map_map]
    rw [blsOf_all]
    · have := is_block_ok f.body 12 h5 h4
      simp [-R.bind] at this
      simp [-R.bind, att_body, Gv.MOST_BODY, this]
    · intro d hd; obtain ⟨_, _, rfl⟩ := List.mem_map.mp hd; rfl
  · rfl
  · intro d hd
    obtain ⟨p, hp, rfl⟩ := List.mem_map.mp hd
    have := h3 p hp
    simp [-R.bind, is_parameter_ok p this.1 this.2]
theorem made_ok (l : List St) : Ir._made.fn [some (.fz (.lst (l.map stD)))] = .ok (.fz (.lst ((lets l).map D.str))) [none] := by
  simp [-R.bind, Ir._made, fn_def]
  rw [lc1_map (fun d => match d with | .tup (.str s :: _) => s == [108, 101, 116] | _ => false) (fun d => .fz (match d with | .tup [_, x, _, _] => x | _ => .non))]
  · simp [-R.bind]
    induction l with
    | nil => rfl
    | cons s l ih => cases s <;> simp [-R.bind, stD, lets, List.filter_cons] <;> simpa using ih
  · rfl
  · intro d hd
    obtain ⟨s, hs, rfl⟩ := List.mem_map.mp hd
    cases s <;> simp [-R.bind, stD]
  · intro d hd hc
    obtain ⟨s, hs, rfl⟩ := List.mem_map.mp hd
    cases s <;> simp [-R.bind, stD] at hc ⊢
theorem are_calls_ok (fs : List Fc) (l : List St) (hn : (fs.map (·.name)).Nodup) (hz : fs.length ≤ 4) (h : callsOk fs l = true) : Ir._are_calls.fn [some (.fz (.lst (l.map stD))), some (.fz (.lst (fs.map fcD)))] = .ok (.fz (.bl true)) [none, none] := by
  simp [-R.bind, Ir._are_calls, fn_def]
  have hz2 : fs.length ≤ sizeMax := by unfold sizeMax; omega
  rw [dc_map (fun d => (attD d ["Function"] "name").getD .non) (fun d => match attD d ["Function"] "params" with | some (.lst xs) => .int xs.length | _ => .non)]
  · have e0 : ((fs.map fcD).map fun d => ((attD d ["Function"] "name").getD .non, match attD d ["Function"] "params" with | some (.lst xs) => D.int xs.length | _ => .non)) = fs.map fun f => (D.str f.name, D.int f.params.length) := by
      rw [List.map_map]
      apply List.map_congr_left
      intro f _
      simp [att_name, att_params]
    rw [e0]
    simp [-R.bind]
    refine forGo_rule (P := fun r => endOf [false, false] r = .ok (.fz (.bl true)) [none, none]) (fun i e => ∃ s3, e = [some (.fz (.lst (l.map stD))), some (.fz (.lst (fs.map fcD))), some (.dic (fs.map fun f => (D.str f.name, D.int f.params.length))), s3, none]) ⟨_, rfl⟩ ?_ ?_
    · rintro i d e hd ⟨s3, rfl⟩
      obtain ⟨s, hs, rfl⟩ := get_map hd
      refine ⟨_, rfl, ?_⟩
      have hs2 : callOk fs s = true := (List.all_eq_true.mp h) s (List.mem_of_getElem? hs)
      cases s with
      | lt x t s => simp [-R.bind, stD]
      | pt x k s => simp [-R.bind, stD]
      | cl f ss =>
        have hl : lookD (fs.map fun f => (D.str f.name, D.int f.params.length)) (.str f) = (fs.map fun f => (f.name, D.int f.params.length)).lookup f := lookD_map (fun f : Fc => f.name) (fun f => D.int f.params.length) fs f
        have hl2 : ∀ n, (fs.map fun g => (g.name, g.params.length)).lookup f = some n → (fs.map fun f => (f.name, D.int f.params.length)).lookup f = some (.int n) := by
          intro n
          clear h hn hz hz2 e0 hl hs2 hd hs
          induction fs with
          | nil => intro h; cases h
          | cons g fs ih =>
            intro h
            rw [List.map_cons, List.lookup_cons] at h ⊢
            cases hg : f == g.name with
            | true => rw [hg] at h; cases h; rfl
            | false => rw [hg] at h; exact ih h
        have hs2 : (match (fs.map fun g => (g.name, g.params.length)).lookup f with
          | some n => n == ss.length
          | none => false) = true := hs2
        cases hq : (fs.map fun g => (g.name, g.params.length)).lookup f with
        | none => rw [hq] at hs2; cases hs2
        | some n =>
          rw [hq] at hs2
          have hs2 : n = ss.length := by simpa using hs2
          simp [-R.bind, stD, D.ty, hl, hl2 n hq, hs2]
    · rintro e ⟨s3, rfl⟩
      simp [-R.bind]
  · rfl
  · rfl
  · rw [List.map_map]
    have : (fs.map ((fun d => (attD d ["Function"] "name").getD .non) ∘ fcD)) = (fs.map (·.name)).map D.str := by
      rw [List.map_map]; rfl
    rw [this]
    exact (List.Pairwise.map _ (fun a b h e => h (D.str.inj e)) hn)
  · simpa using hz2
  · intro d hd
    obtain ⟨f, hf, rfl⟩ := List.mem_map.mp hd
    refine ⟨_, .fz (.str f.name), .fz (.int f.params.length), rfl, by simp [-R.bind, att_name], by simp [-R.bind, att_params], rfl, by simp [att_params], rfl, rfl⟩
theorem copied1_st (s : St) : Ir._copied.fn [some (.fz (stD s))] = .ok (.fz (stD s)) [none] := by
  cases s with
  | lt x t s => cases s <;> simp [-R.bind, Ir._copied, fn_def, stD, srcD, plD, tyD, lcRun, lcGo, ownOk, restE, pickB]
  | pt x k s => cases s <;> simp [-R.bind, Ir._copied, fn_def, stD, srcD, plD, tyD, lcRun, lcGo, ownOk, restE, pickB]
  | cl f ss => simp [-R.bind, Ir._copied, fn_def, stD, lcRun, lcGo, ownOk, restE, pickB]
theorem copied1_par (p : Nm × List Rt) : Ir._copied.fn [some (.fz (parD p))] = .ok (.fz (parD p)) [none] := by
  simp [-R.bind, Ir._copied, fn_def, parD, tyD, lcRun, lcGo, ownOk, restE, pickB]
theorem copied_ok {α : Type} (f : α → D) (h : ∀ a, Ir._copied.fn [some (.fz (f a))] = .ok (.fz (f a)) [none]) (l : List α) : Ir.copied.fn [some (.fz (.lst (l.map f)))] = .ok (.fz (.lst (l.map f))) [none] := by
  simp [-R.bind, Ir.copied, fn_def]
  rw [lc1_map1 (fun d => .fz d)]
  · simp [-R.bind]
  · rfl
  · intro d hd
    obtain ⟨a, _, rfl⟩ := List.mem_map.mp hd
    simp [-R.bind, h]
/-- Function(..) -/
abbrev fcO (f : Fc) : OT := .ins "Function" [("name", .fz (.str f.name)), ("params", .fz (.lst (f.params.map parD))), ("body", .fz (.lst (f.body.map stD)))]
theorem function_init (n : Nm) (ps : List (Nm × List Rt)) (b : List St) : Ir.Function___init__.fn [some (.ins "Function" []), some (.fz (.str n)), some (.fz (.lst (ps.map parD))), some (.fz (.lst (b.map stD)))] = .ok (.fz .non) [some (fcO ⟨n, ps, b⟩), none, none, none] := by
  have n1 : ¬ (("name" : Str) = "params") := by decide
  have n2 : ¬ (("name" : Str) = "body") := by decide
  have n3 : ¬ (("params" : Str) = "body") := by decide
  simp [-R.bind, Ir.Function___init__, fn_def, copied_ok stD copied1_st, copied_ok parD copied1_par, putA, n1, n2, n3]
theorem fcO_view (f : Fc) : (fcO f).view = fcD f := rfl
abbrev fnames (f : Fc) : List Nm := f.params.map (·.1) ++ lets f.body
theorem flat_split {α β : Type} (g : α → List β) {fs : List α} {i : Nat} {f : α} (h : fs[i]? = some f) : (fs.take (i + 1)).flatMap g = (fs.take i).flatMap g ++ g f ∧ ((fs.take i).flatMap g).length + (g f).length ≤ (fs.flatMap g).length := by
  have e1 : fs.take (i + 1) = fs.take i ++ [f] := by rw [List.take_add_one, h]; rfl
  have e2 : (fs.take (i + 1)).flatMap g = (fs.take i).flatMap g ++ g f := by rw [e1]; simp [List.flatMap_append]
  refine ⟨e2, ?_⟩
  have e3 : fs.flatMap g = (fs.take (i + 1)).flatMap g ++ (fs.drop (i + 1)).flatMap g := by rw [← List.flatMap_append, List.take_append_drop]
  rw [e3, e2, List.length_append, List.length_append]
  exact Nat.le_add_right _ _
theorem names_of_ok (fs : List Fc) (l : List St) (hz : (fs.flatMap fnames).length + (lets l).length ≤ 1000) : Ir.names_of.fn [some (.fz (.lst (fs.map fcD))), some (.fz (.lst (l.map stD)))] = .ok (.fz (.lst (((fs.flatMap fnames) ++ lets l).map D.str))) [none, none] := by
  rw [List.map_append]
  simp only [Ir.names_of, fn_def]
  simp [-R.bind, -List.map_flatMap, -List.length_flatMap]
  refine forGo_rule (P := fun r => endOf [false, false] r = .ok (.fz (.lst ((fs.flatMap fnames).map D.str ++ (lets l).map D.str))) [none, none]) (fun i e => ∃ s3, e = [some (.fz (.lst (fs.map fcD))), some (.fz (.lst (l.map stD))), some (.ml (((fs.take i).flatMap fnames).map D.str)), s3, none, none]) ⟨_, rfl⟩ ?_ ?_
  · rintro i d e hd ⟨s3, rfl⟩
    obtain ⟨f, hf, rfl⟩ := get_map hd
    refine ⟨_, rfl, ?_⟩
    obtain ⟨h1, h2⟩ := flat_split fnames hf
    rw [h1]
    generalize (fs.take i).flatMap fnames = acc at h2
    have h3 : (fnames f).length = f.params.length + (lets f.body).length := by simp
    have z1 : f.params.length + (lets f.body).length ≤ sizeMax := by unfold sizeMax; omega
    have z2 : acc.length + (f.params.length + (lets f.body).length) ≤ sizeMax := by unfold sizeMax; omega
    simp [-R.bind, att_params, -extO, -OT.ml]
    rw [lc_map (fun _ => true) (fun d => .fz (match d with | .tup [x, _] => x | _ => .non))]
    · have e1 : ((f.params.map parD).filter fun _ => true).map (fun d => (OT.fz (match d with | .tup [x, _] => x | _ => .non)).view) = (f.params.map (·.1)).map D.str := by
        rw [List.filter_eq_self.mpr (fun _ _ => rfl), List.map_map, List.map_map]
        rfl
      rw [e1]
      generalize hps : f.params.map (·.1) = ps
      have hpl : ps.length = f.params.length := by rw [← hps]; simp
      have e2 : extO ((ps ++ lets f.body).map D.str) (.ml (acc.map D.str)) = some (.ml ((acc ++ (ps ++ lets f.body)).map D.str)) := by
        rw [ext_ml, if_pos (by simp [hpl]; exact z2), ← List.map_append]
      simp only [List.map_append] at e2
      simp [-R.bind, att_body, made_ok, hpl, z1, -List.map_map]
      simp [-R.bind, e2, hps]
      rw [← hps, List.map_map]; rfl
    · rfl
    · rfl
    · intro d hd
      obtain ⟨p, hp, rfl⟩ := List.mem_map.mp hd
      exact ⟨_, rfl, rfl, fun _ => rfl, rfl⟩
  · rintro e ⟨s3, rfl⟩
    simp only [List.length_map, List.take_length]
    generalize fs.flatMap fnames = acc at hz
    have z : acc.length + (lets l).length ≤ sizeMax := by unfold sizeMax; omega
    simp [-R.bind, made_ok, z]
end Pg
end

section
/-! the program: Program is made -/
namespace Pg
open PySem Rx
theorem enumD_get : ∀ (xs : List D) (n i : Nat) (d : D), (enumD n xs)[i]? = some d → ∃ x, xs[i]? = some x ∧ d = .tup [intD (n + i), x]
  | [], _, _, _, h => by simp [enumD] at h
  | x :: xs, n, 0, d, h => by simp [enumD] at h; exact ⟨x, rfl, by rw [← h]; simp⟩
  | x :: xs, n, i + 1, d, h => by
    obtain ⟨y, h1, h2⟩ := enumD_get xs (n + 1) i d (by simpa [enumD] using h)
    refine ⟨y, by simpa using h1, ?_⟩
    rw [h2]
    simp
    omega
theorem nodup_str {l : List Nm} (h : l.Nodup) : (l.map D.str).Nodup := List.Pairwise.map _ (fun a b h e => h (D.str.inj e)) h
theorem take_slice {α : Type} (f : α → D) (l : List α) (i : Nat) : slD (.lst (l.map f)) none (some (i : Int)) = some (.ml ((l.take i).map f)) := by
  show some (OT.ml (((l.map f).take (min i (l.map f).length)).drop 0)) = _
  rw [List.drop_zero, List.length_map, ← List.map_take]
  congr 3
  by_cases h : i ≤ l.length
  · rw [Nat.min_eq_left h]
  · rw [Nat.min_eq_right (by omega), List.take_of_length_le (Nat.le_refl _), List.take_of_length_le (by omega)]
theorem take_slice' {α : Type} (f : α → D) (l : List α) (i : Nat) : slD (.lst (l.map f)) none (some (i : Int)) = some (.ml ((l.take i).map f)) := take_slice f l i
theorem is_program_ok (p : Prg) (h : Ok p) (hz : (namesOf p).length ≤ 1000) : Ir._is_program.fn [some (.fz (.lst (p.funs.map fcD))), some (.fz (.lst (p.stmts.map stD))), some (.fz (.fn "is_type"))] = .ok (.fz (.bl true)) [none, none, none] := by
  have e1 : ¬ ((4 : Int) < (p.funs.length : Int)) := by have := h.few; omega
  have hz1 : (p.funs.flatMap fnames).length + (lets p.stmts).length ≤ 1000 := by simpa [namesOf, -List.length_flatMap] using hz
  have hb := is_block_ok p.stmts 40 h.stmts h.most
  simp [-R.bind] at hb
  have hnm := names_of_ok p.funs p.stmts hz1
  simp only [Ir._is_program, fn_def]
  simp [-R.bind, Gv.MOST_FUNCTIONS, e1]
  rw [lc1_map1 (fun d => .fz (.bl true))]
  · simp [-R.bind, -List.map_map]
    rw [blsOf_all]
    · simp [-R.bind, Gv.MOST_STATEMENTS, hb, -List.map_flatMap]
      rw [lc1_map1 (fun d => .fz ((attD d ["Function"] "name").getD .non))]
      · have e2 : (p.funs.map fcD).map (fun d => (OT.fz ((attD d ["Function"] "name").getD .non)).view) = (p.funs.map (·.name)).map D.str := by
          rw [List.map_map, List.map_map]; rfl
        rw [e2]
        simp only [namesOf] at hz
        have hnd := h.nodup
        simp only [namesOf] at hnd
        have hnm2 : Ir.names_of.fn [some (.fz (.lst (p.funs.map fcD))), some (.fz (.lst (p.stmts.map stD)))] = .ok (.fz (.lst ((p.funs.flatMap fnames ++ lets p.stmts).map D.str))) [none, none] := hnm
        generalize hall : p.funs.flatMap fnames ++ lets p.stmts = all at hnm2
        have hall2 : ((p.funs.flatMap fun f => f.params.map (·.1) ++ lets f.body) ++ lets p.stmts) = all := hall
        rw [hall2] at hz hnd
        generalize hns : p.funs.map (·.name) = ns at hnd
        have hnl : ns.length ≤ 4 := by rw [← hns]; simpa using h.few
        have z1 : ns.length + all.length ≤ sizeMax := by unfold sizeMax; omega
        have z2 : (ns ++ all).length ≤ sizeMax := by simpa using z1
        simp [-R.bind, -List.map_map, hnm2, z1]
        rw [← List.map_append]
        rw [dc_map (fun d => d) (fun _ => .bl true)]
        · simp [-R.bind, -List.map_map]
          refine forGo_rule (P := fun r => endOf [false, false, false] r = .ok (.fz (.bl true)) [none, none, none]) (fun i e => ∃ s4 s5, e = [some (.fz (.lst (p.funs.map fcD))), some (.fz (.lst (p.stmts.map stD))), some (.fz (.fn "is_type")), some (.fz (.lst (ns.map D.str ++ all.map D.str))), s4, s5, none]) ⟨_, _, rfl⟩ ?_ ?_
          · rintro i d e hd ⟨s4, s5, rfl⟩
            obtain ⟨x, hx, rfl⟩ := enumD_get _ _ _ _ hd
            obtain ⟨f, hf, rfl⟩ := get_map hx
            refine ⟨_, rfl, ?_⟩
            have hc := are_calls_ok (p.funs.take i) f.body (by
              have hnn := h.nodup
              have h2 := (List.nodup_append.mp hnn).1
              rw [List.map_take]
              exact h2.sublist (List.take_sublist _ _)) (by rw [List.length_take]; have := h.few; omega) (h.body i f hf)
            simp [-R.bind, -List.map_take, -List.map_map, att_body, take_slice, hc]
          · rintro e ⟨s4, s5, rfl⟩
            have hc := are_calls_ok p.funs p.stmts (List.nodup_append.mp h.nodup).1 h.few h.calls
            simp [-R.bind, hc]
        · rfl
        · rfl
        · have := nodup_str hnd
          simpa [Function.comp_def] using this
        · simpa using z2
        · intro d hd
          obtain ⟨x, hx, rfl⟩ := List.mem_map.mp hd
          exact ⟨_, .fz (.str x), .fz (.bl true), rfl, rfl, rfl, rfl, rfl, rfl, rfl⟩
      · rfl
      · intro d hd
        obtain ⟨f, hf, rfl⟩ := List.mem_map.mp hd
        simp [-R.bind, att_name]
    · intro d hd; obtain ⟨_, _, rfl⟩ := List.mem_map.mp hd; rfl
  · rfl
  · intro d hd
    obtain ⟨f, hf, rfl⟩ := List.mem_map.mp hd
    simp [-R.bind, is_function_ok f (h.funs f hf)]
/-- Program(..) -/
abbrev prO (p : Prg) : OT := .ins "Program" [("functions", .fz (.lst (p.funs.map fcD))), ("statements", .fz (.lst (p.stmts.map stD)))]
theorem program_init (p : Prg) (h : Ok p) (hz : (namesOf p).length ≤ 1000) : Ir.Program___init__.fn [some (.ins "Program" []), some (.fz (.lst (p.funs.map fcD))), some (.fz (.lst (p.stmts.map stD)))] = .ok (.fz .non) [some (prO p), none, none] := by
  have hp := is_program_ok p h hz
  have n1 : ¬ (("functions" : Str) = "statements") := by decide
  simp [-R.bind, Ir.Program___init__, fn_def, hp]
  rw [lc1_map1 (fun d => .fz d)]
  · simp [-R.bind, copied_ok stD copied1_st, putA, n1]
  · rfl
  · intro d hd
    obtain ⟨f, hf, rfl⟩ := List.mem_map.mp hd
    have := function_init f.name f.params f.body
    simp [-R.bind, att_name, att_params, att_body, this]
    rfl
end Pg
end

section
/-! judging -/
namespace Pg
open PySem Rx Lw
abbrev Tys := List (Nm × List Rt)
abbrev tysD (tys : Tys) : List (D × D) := tys.map fun p => (D.str p.1, tyD p.2)
inductive Rs where
  | un | tm | mr | mw | od | nc
  deriving DecidableEq
def Rs.d : Rs → D
  | .un => .str [117, 110, 107, 110, 111, 119, 110, 32, 110, 97, 109, 101]
  | .tm => .str [116, 111, 111, 32, 109, 97, 110, 121, 32, 115, 116, 97, 114, 115]
  | .mr => .str [109, 97, 121, 32, 110, 111, 116, 32, 114, 101, 97, 100]
  | .mw => .str [109, 97, 121, 32, 110, 111, 116, 32, 119, 114, 105, 116, 101]
  | .od => .str [111, 116, 104, 101, 114, 32, 100, 101, 112, 116, 104]
  | .nc => .str [110, 111, 32, 99, 111, 110, 118, 101, 114, 115, 105, 111, 110]
def rsO : Option Rs → D
  | none => .non
  | some r => r.d
theorem rsO_is (o : Option Rs) : isD (rsO o) .non = some o.isNone := by
  rcases o with _ | r
  · rfl
  · cases r <;> rfl
theorem rsO_nis (o : Option Rs) : nisD (rsO o) .non = some o.isSome := by
  rcases o with _ | r
  · rfl
  · cases r <;> rfl
def placeF (tys : Tys) (x : Nm) (k : Nat) : Option Rs := match tys.lookup x with
  | none => some .un
  | some t => if t.length ≤ k then some .tm else if (t.take k).all (·.r) then none else some .mr
def seenT (tys : Tys) (x : Nm) (k : Nat) : List Rt := ((tys.lookup x).getD []).drop k
abbrev Ext := List (List Rt × List Rt)
abbrev extD (ex : Ext) : D := .lst (ex.map fun p => D.tup [tyD p.1, tyD p.2])
def convF (a b : List Rt) (ex : Ext) : Option Rs := if a.length ≠ b.length then some .od else if conv a b || decide ((a, b) ∈ ex) then none else some .nc
def placedF (tys : Tys) (x : Nm) (k : Nat) (g : List Rt → Option Rs) : Option Rs := match placeF tys x k with
  | some r => some r
  | none => g (seenT tys x k)
def headR (t : List Rt) : Bool := (t.head?.map (·.r)).getD false
def headW (t : List Rt) : Bool := (t.head?.map (·.w)).getD false
def srcF (tys : Tys) (s : Src) (u : List Rt) (ex : Ext) : Option Rs := match s with
  | .num _ => if u = [] then none else some .od
  | .null => if u = [] then some .od else none
  | .adr x k => placedF tys x k fun t => convF t u ex
  | .val x k => placedF tys x k fun t => if headR t then convF t.tail u ex else some .mr
def putF' (tys : Tys) (x : Nm) (k : Nat) (s : Src) (ex : Ext) : Option Rs := placedF tys x k fun t => if headW t then srcF tys s t.tail ex else some .mw
def firstF : List (Option Rs) → Option Rs
  | [] => none
  | some r :: _ => some r
  | none :: l => firstF l
def stF (fs : List Fc) (tys : Tys) (s : St) (ex : Ext) : Option Rs := match s with
  | .lt _ t s => srcF tys s t.tail ex
  | .pt x k s => putF' tys x k s ex
  | .cl f ss => match fs.find? (fun g => g.name == f) with
    | some g => firstF ((g.params.zip ss).map fun q => srcF tys q.2 q.1.2.tail ex)
    | none => none
def putT (tys : Tys) (x : Nm) (t : List Rt) : Tys := if (tys.any fun p => p.1 == x) then tys.map fun p => if p.1 == x then (x, t) else p else tys ++ [(x, t)]
def stepT (tys : Tys) : St → Tys
  | .lt x t _ => putT tys x t
  | _ => tys
def blockF (fs : List Fc) (ex : Ext) : Nat → Tys → List St → List (Nat × Rs)
  | _, _, [] => []
  | n, tys, s :: r => (match stF fs tys s ex with
    | some x => [(n, x)]
    | none => []) ++ blockF fs ex (n + 1) (stepT tys s) r
def faD (f : Nm) (q : Nat × Rs) : D := .tup [.str f, .int q.1, q.2.d]
def faultsF (p : Prg) (ex : Ext) : List D := (p.funs.flatMap fun f => (blockF p.funs ex 0 f.params f.body).map (faD f.name)) ++ (blockF p.funs ex 0 [] p.stmts).map (faD [])
/-! ### dicts of types -/
theorem lookD_tys (tys : Tys) (x : Nm) : lookD (tysD tys) (.str x) = (tys.lookup x).map tyD := by
  induction tys with
  | nil => rfl
  | cons p tys ih =>
    show (if D.str p.1 = D.str x then some (tyD p.2) else lookD _ _) = _
    rw [List.lookup_cons]
    by_cases h : p.1 = x
    · subst h; simp
    · have h2 : ¬ (D.str p.1 = D.str x) := fun e => h (D.str.inj e)
      have h3 : (x == p.1) = false := by simpa using fun e => h e.symm
      rw [if_neg h2, h3]; exact ih
theorem hasD_tys (tys : Tys) (x : Nm) : hasD (tysD tys) (.str x) = (tys.lookup x).isSome := by
  induction tys with
  | nil => rfl
  | cons p tys ih =>
    show (decide (D.str p.1 = D.str x) || hasD (tysD tys) (.str x)) = _
    rw [ih, List.lookup_cons]
    by_cases h : p.1 = x
    · subst h; simp
    · have h2 : ¬ (D.str p.1 = D.str x) := fun e => h (D.str.inj e)
      have h3 : (x == p.1) = false := by simpa using fun e => h e.symm
      rw [decide_eq_false h2, h3]; rfl
theorem putD_tys (tys : Tys) (x : Nm) (t : List Rt) : putD (tysD tys) (.str x) (tyD t) = tysD (putT tys x t) := by
  have h1 : hasD (tysD tys) (.str x) = tys.any fun p => p.1 == x := by
    unfold hasD
    rw [List.any_map]
    congr 1
    funext p
    show decide (D.str p.1 = D.str x) = (p.1 == x)
    by_cases h : p.1 = x
    · subst h; simp
    · have h2 : ¬ (D.str p.1 = D.str x) := fun e => h (D.str.inj e)
      rw [decide_eq_false h2]; simpa using h
  unfold putD putT
  rw [h1]
  cases h : tys.any fun p => p.1 == x with
  | false => simp [tysD]
  | true =>
    simp only [if_true, tysD, List.map_map]
    apply List.map_congr_left
    intro p _
    show (if D.str p.1 = D.str x then _ else _) = _
    by_cases h : p.1 = x
    · subst h; simp
    · have h2 : ¬ (D.str p.1 = D.str x) := fun e => h (D.str.inj e)
      have h3 : (p.1 == x) = false := by simpa using h
      rw [if_neg h2]; simp [h]
theorem cut_take (l : List D) (k : Nat) : cut l none (some (k : Int)) = l.take k := by
  show (l.take (min k l.length)).drop 0 = _
  rw [List.drop_zero]
  by_cases h : k ≤ l.length
  · rw [Nat.min_eq_left h]
  · rw [Nat.min_eq_right (by omega), List.take_of_length_le (Nat.le_refl _), List.take_of_length_le (by omega)]
theorem cut_drop (l : List D) (k : Nat) : cut l (some (k : Int)) none = l.drop k := by
  show (l.take l.length).drop (min k l.length) = _
  rw [List.take_length]
  by_cases h : k ≤ l.length
  · rw [Nat.min_eq_left h]
  · rw [Nat.min_eq_right (by omega), List.drop_eq_nil_of_le (Nat.le_refl _), List.drop_eq_nil_of_le (by omega)]
theorem sl_take (t : List Rt) (k : Nat) : slD (tyD t) none (some (k : Int)) = some (.fz (tyD (t.take k))) := by
  show some (OT.fz (.tup (cut _ _ _))) = _
  rw [cut_take, ← List.map_take]; rfl
theorem sl_drop (t : List Rt) (k : Nat) : slD (tyD t) (some (k : Int)) none = some (.fz (tyD (t.drop k))) := by
  show some (OT.fz (.tup (cut _ _ _))) = _
  rw [cut_drop, ← List.map_drop]; rfl
theorem sl_tail (t : List Rt) : slD (tyD t) (some 1) none = some (.fz (tyD t.tail)) := by
  rw [show (1 : Int) = ((1 : Nat) : Int) from rfl, sl_drop, List.drop_one]
theorem items_ty (t : List Rt) : itemsOf .val [tyD t] = some (t.map Rt.d) := rfl
/-! ### the program's judging -/
theorem place_fault_ok (tys : Tys) (x : Nm) (k : Nat) : Ir.place_fault.fn [some (.dic (tysD tys)), some (.fz (plD x k))] = .ok (.fz (rsO (placeF tys x k))) [some (.dic (tysD tys)), none] := by
  simp only [Ir.place_fault, fn_def]
  cases h : tys.lookup x with
  | none =>
    simp [-R.bind, plD, hasD_tys, h, placeF, rsO, Rs.d]
  | some t =>
    by_cases hk : t.length ≤ k
    · simp [-R.bind, plD, hasD_tys, lookD_tys, h, placeF, hk, len_ty, rsO, Rs.d]
    · have hp : placeF tys x k = (if (t.take k).all (·.r) = true then none else some .mr) := by
        unfold placeF
        rw [h]
        show (if t.length ≤ k then _ else _) = _
        rw [if_neg hk]
      rw [hp]
      simp [-R.bind, -List.all_eq_true, plD, hasD_tys, lookD_tys, h, hk, len_ty, sl_take, items_ty]
      rw [lc1_map1 (fun d => .fz (.bl (match inD (.str [114]) d with | some b => b | none => false)))]
      · have e1 : ((t.take k).map Rt.d).map (fun d => (OT.fz (.bl (match inD (.str [114]) d with | some b => b | none => false))).view) = (t.take k).map fun x => D.bl x.r := by
          rw [List.map_map]
          apply List.map_congr_left
          intro x _
          simp [-inD_str, in_r]
        rw [← List.map_take, e1]
        have e2 : allB [.lst ((t.take k).map fun x => D.bl x.r)] = some (.fz (.bl ((t.take k).all (·.r)))) := by
          show (blsOf _).map _ = _
          rw [bls_map]
          show some (OT.fz (.bl (((t.take k).map (·.r)).all id))) = _
          rw [List.all_map]; rfl
        generalize (t.take k).all (·.r) = bb at e2
        simp [-R.bind, -List.map_take, e2]
        cases bb <;> simp [-R.bind, rsO, Rs.d]
      · rfl
      · intro d hd
        rw [← List.map_take] at hd
        obtain ⟨x, hx, rfl⟩ := List.mem_map.mp hd
        simp [-R.bind, -inD_str, in_r]
theorem seen_type_ok (tys : Tys) (x : Nm) (k : Nat) (t : List Rt) (h : tys.lookup x = some t) : Ir.seen_type.fn [some (.dic (tysD tys)), some (.fz (plD x k))] = .ok (.fz (tyD (seenT tys x k))) [some (.dic (tysD tys)), none] := by
  simp [-R.bind, Ir.seen_type, fn_def, plD, lookD_tys, h, sl_drop, seenT]
theorem converts_ok (a b : List Rt) (h : a.length < 10) : Ir.converts.fn [some (.fz (tyD a)), some (.fz (tyD b))] = .ok (.fz (.bl (decide (a.length = b.length) && conv a b))) [none, none] := by
  by_cases hl : a.length = b.length
  · have h1 := find_ok 10 a b hl h (by omega)
    have h2 := conv_find a b hl
    have h3 : isD (foundD (find a b)) .non = some (conv a b) := by
      cases hf : find a b with
      | none => rw [h2.mp hf]; rfl
      | some q =>
        have : conv a b = false := by
          cases hc : conv a b with
          | false => rfl
          | true => rw [h2.mpr hc] at hf; cases hf
        rw [this]; rfl
    have hl2 : (a.length : Int) = b.length := by omega
    simp [-R.bind, Ir.converts, fn_def, len_ty, hl, h1, h3, pb_bind, pb_st, pb_end]
  · have hl2 : ¬ ((a.length : Int) = b.length) := by omega
    have hl3 : ((a.length : Int) == b.length) = false := by simpa using hl2
    simp [-R.bind, Ir.converts, fn_def, len_ty, hl, hl3, pb_bind, pb_st, pb_end]
theorem eqok_ty (n : Nat) (t : List Rt) : D.eqok (n + 1) (tyD t) = true := by
  show D.eqoks n (t.map Rt.d) = true
  induction t with
  | nil => rfl
  | cons x t ih => show (D.eqok n x.d && _) = true; rw [ih]; cases n <;> rfl
theorem rt_inj {x y : Rt} (h : x.s = y.s) : x = y := by
  rcases x with ⟨_ | _, _ | _⟩ <;> rcases y with ⟨_ | _, _ | _⟩ <;> first | rfl | cases h
theorem eqv_ty : ∀ (a b : List Rt), D.eqv (tyD a) (tyD b) = decide (a = b)
  | [], [] => rfl
  | [], y :: b => by simp [tyD, D.eqv, D.eqvs]
  | x :: a, [] => by simp [tyD, D.eqv, D.eqvs]
  | x :: a, y :: b => by
    have ih := eqv_ty a b
    simp only [tyD, D.eqv] at ih
    show (D.eqv x.d y.d && D.eqvs (a.map Rt.d) (b.map Rt.d)) = _
    rw [ih]
    show ((x.s == y.s) && _) = _
    by_cases h : x = y
    · subst h; simp
    · have : (x.s == y.s) = false := by simpa using fun e => h (rt_inj e)
      rw [this]; simp [h]
theorem ext_in (a b : List Rt) (ex : Ext) : inD (.tup [tyD a, tyD b]) (extD ex) = some (decide ((a, b) ∈ ex)) := by
  have h1 : D.eqok 60 (.tup [tyD a, tyD b]) = true := by
    show (D.eqok 59 (tyD a) && (D.eqok 59 (tyD b) && true)) = true
    rw [eqok_ty 58, eqok_ty 58]; rfl
  have h2 : D.eqoks 60 (ex.map fun p => D.tup [tyD p.1, tyD p.2]) = true := by
    induction ex with
    | nil => rfl
    | cons p ex ih =>
      show ((D.eqok 59 (tyD p.1) && (D.eqok 59 (tyD p.2) && true)) && _) = true
      rw [eqok_ty 58, eqok_ty 58, ih]; rfl
  show inSeq _ _ = _
  rw [inSeq_ok h1 h2]
  congr 1
  rw [List.any_map]
  induction ex with
  | nil => simp
  | cons p ex ih =>
    simp only [List.any_cons, Function.comp_def] at ih ⊢
    rw [ih (by
      have := h2
      simp only [List.map_cons, D.eqoks, Bool.and_eq_true] at this
      exact this.2)]
    have : D.eqv (.tup [tyD p.1, tyD p.2]) (.tup [tyD a, tyD b]) = decide ((a, b) = p) := by
      show (D.eqv (tyD p.1) (tyD a) && (D.eqv (tyD p.2) (tyD b) && true)) = _
      rw [eqv_ty, eqv_ty]
      obtain ⟨p1, p2⟩ := p
      by_cases q1 : p1 = a
      · subst q1
        by_cases q2 : p2 = b
        · subst q2; simp
        · have : ¬ ((p1, b) = (p1, p2)) := fun e => q2 (Prod.mk.inj e).2.symm
          rw [decide_eq_false q2, decide_eq_false this]; simp
      · have : ¬ ((a, b) = (p1, p2)) := fun e => q1 (Prod.mk.inj e).1.symm
        rw [decide_eq_false q1, decide_eq_false this]; simp
    rw [this, ← Bool.decide_or]
    exact decide_eq_decide.mpr List.mem_cons.symm
theorem conv_fault_ok (a b : List Rt) (ex : Ext) (h : a.length < 10) : Ir._conversion_fault.fn [some (.fz (tyD a)), some (.fz (tyD b)), some (.fz (extD ex))] = .ok (.fz (rsO (convF a b ex))) [none, none, none] := by
  simp only [Ir._conversion_fault, fn_def]
  by_cases hl : a.length = b.length
  · have hc := converts_ok a b h
    rw [decide_eq_true hl, Bool.true_and] at hc
    have he := ext_in a b ex
    cases hv : conv a b with
    | true => rw [hv] at hc; simp [-R.bind, len_ty, hl, hc, convF, hv, rsO]
    | false =>
      rw [hv] at hc
      by_cases hx : (a, b) ∈ ex
      · simp [-R.bind, -inD_lst, len_ty, hl, hc, he, convF, hv, rsO, hx]
      · simp [-R.bind, -inD_lst, len_ty, hl, hc, he, convF, hv, rsO, hx, Rs.d]
  · have hl2 : ¬ ((a.length : Int) = b.length) := by omega
    simp [-R.bind, len_ty, hl, hl2, convF, rsO, Rs.d]
end Pg
end

section
/-! judging: sources, statements, blocks -/
namespace Pg
open PySem Rx Lw
def TysOk (tys : Tys) : Prop := ∀ p ∈ tys, typeOk p.2 = true
theorem lookup_mem {tys : Tys} {x : Nm} {t : List Rt} (h : tys.lookup x = some t) : ∃ p ∈ tys, p.2 = t := by
  induction tys with
  | nil => cases h
  | cons p tys ih =>
    rw [List.lookup_cons] at h
    cases z : x == p.1 with
    | true => rw [z] at h; cases h; exact ⟨p, List.mem_cons_self, rfl⟩
    | false =>
      rw [z] at h
      obtain ⟨q, h1, h2⟩ := ih h
      exact ⟨q, List.mem_cons_of_mem _ h1, h2⟩
theorem TysOk.len {tys : Tys} (h : TysOk tys) {x : Nm} {t : List Rt} (hx : tys.lookup x = some t) : 0 < t.length ∧ t.length ≤ 6 := by
  obtain ⟨p, h1, rfl⟩ := lookup_mem hx
  simpa [typeOk] using h p h1
/-- a place that is reached: what is seen there -/
theorem reached {tys : Tys} (h : TysOk tys) {x : Nm} {k : Nat} (hp : placeF tys x k = none) : ∃ t r w, tys.lookup x = some t ∧ seenT tys x k = r :: w ∧ w.length < 6 := by
  unfold placeF at hp
  cases hl : tys.lookup x with
  | none => rw [hl] at hp; cases hp
  | some t =>
    rw [hl] at hp
    have hp : (if t.length ≤ k then some Rs.tm else if (t.take k).all (·.r) = true then none else some .mr) = none := hp
    by_cases hk : t.length ≤ k
    · rw [if_pos hk] at hp; cases hp
    · have hs : seenT tys x k = t.drop k := by unfold seenT; rw [hl]; rfl
      have hlen := h.len hl
      cases hd : t.drop k with
      | nil =>
        have := congrArg List.length hd
        simp at this; omega
      | cons r w =>
        refine ⟨t, r, w, rfl, by rw [hs, hd], ?_⟩
        have := congrArg List.length hd
        simp at this; omega
theorem eq_nilty (u : List Rt) : eqD (tyD u) (.tup []) = some (decide (u = [])) := by
  rw [show D.tup [] = tyD [] from rfl, eqD_ok (eqok_ty 59 u) (eqok_ty 59 []), eqv_ty]
theorem ne_nilty (u : List Rt) : neD (tyD u) (.tup []) = some (!decide (u = [])) := by
  rw [show D.tup [] = tyD [] from rfl, neD_ok (eqok_ty 59 u) (eqok_ty 59 []), eqv_ty]
theorem rsO_mr : rsO (some .mr) = .str [109, 97, 121, 32, 110, 111, 116, 32, 114, 101, 97, 100] := rfl
theorem rsO_mw : rsO (some .mw) = .str [109, 97, 121, 32, 110, 111, 116, 32, 119, 114, 105, 116, 101] := rfl
theorem srcD_head (s : Src) : ixK (srcD s) (.int 0) = some (match s with | .num _ => kNumber | .null => kNull | .val _ _ => kValue | .adr _ _ => kAddress) := by cases s <;> rfl
theorem srcD_val (x : Nm) (k : Nat) : ixK (srcD (.val x k)) (.int 1) = some (plD x k) := rfl
theorem srcD_adr (x : Nm) (k : Nat) : ixK (srcD (.adr x k)) (.int 1) = some (plD x k) := rfl
theorem source_fault_ok (tys : Tys) (h : TysOk tys) (s : Src) (u : List Rt) (ex : Ext) : Ir.source_fault.fn [some (.dic (tysD tys)), some (.fz (srcD s)), some (.fz (tyD u)), some (.fz (extD ex))] = .ok (.fz (rsO (srcF tys s u ex))) [some (.dic (tysD tys)), none, none, none] := by
  simp only [Ir.source_fault, fn_def]
  cases s with
  | num n =>
    by_cases hu : u = []
    · simp [-R.bind, srcD_head, eq_nilty, hu, srcF, rsO]
    · simp [-R.bind, srcD_head, eq_nilty, hu, srcF, rsO, Rs.d]
  | null =>
    by_cases hu : u = []
    · simp [-R.bind, srcD_head, ne_nilty, hu, srcF, rsO, Rs.d]
    · simp [-R.bind, srcD_head, ne_nilty, hu, srcF, rsO]
  | adr x k =>
    cases hp : placeF tys x k with
    | some r =>
      have e1 : srcF tys (.adr x k) u ex = some r := by simp [srcF, placedF, hp]
      simp [-R.bind, srcD_head, srcD_adr, place_fault_ok, hp, rsO_nis, e1]
    | none =>
      obtain ⟨t, r, w, hl, hs, hw⟩ := reached h hp
      have e1 : srcF tys (.adr x k) u ex = convF (r :: w) u ex := by simp [srcF, placedF, hp, hs]
      have e2 := seen_type_ok tys x k t hl
      rw [hs] at e2
      simp [-R.bind, srcD_head, srcD_adr, place_fault_ok, hp, rsO_nis, e1, e2, conv_fault_ok (r :: w) u ex (by simp; omega)]
  | val x k =>
    cases hp : placeF tys x k with
    | some r =>
      have e1 : srcF tys (.val x k) u ex = some r := by simp [srcF, placedF, hp]
      simp [-R.bind, srcD_head, srcD_val, place_fault_ok, hp, rsO_nis, e1]
    | none =>
      obtain ⟨t, r, w, hl, hs, hw⟩ := reached h hp
      have e1 : srcF tys (.val x k) u ex = if r.r then convF w u ex else some .mr := by simp [srcF, placedF, hp, hs, headR]
      have e2 := seen_type_ok tys x k t hl
      rw [hs] at e2
      cases hr : r.r with
      | true => simp [-R.bind, -inD_str, srcD_head, srcD_val, place_fault_ok, hp, rsO_nis, e1, e2, head_ty, in_r, hr, sl_tail, conv_fault_ok w u ex (by omega)]
      | false => simp [-R.bind, -inD_str, srcD_head, srcD_val, place_fault_ok, hp, rsO_nis, e1, e2, head_ty, in_r, hr, rsO_mr]
theorem put_fault_ok (tys : Tys) (h : TysOk tys) (x : Nm) (k : Nat) (s : Src) (ex : Ext) : Ir._put_fault.fn [some (.dic (tysD tys)), some (.fz (plD x k)), some (.fz (srcD s)), some (.fz (extD ex))] = .ok (.fz (rsO (putF' tys x k s ex))) [some (.dic (tysD tys)), none, none, none] := by
  simp only [Ir._put_fault, fn_def]
  cases hp : placeF tys x k with
  | some r =>
    have e1 : putF' tys x k s ex = some r := by simp [putF', placedF, hp]
    simp [-R.bind, place_fault_ok, hp, rsO_nis, e1]
  | none =>
    obtain ⟨t, r, w, hl, hs, hw⟩ := reached h hp
    have e1 : putF' tys x k s ex = if r.w then srcF tys s w ex else some .mw := by simp [putF', placedF, hp, hs, headW]
    have e2 := seen_type_ok tys x k t hl
    rw [hs] at e2
    cases hr : r.w with
    | true => simp [-R.bind, -inD_str, place_fault_ok, hp, rsO_nis, e1, e2, head_ty, in_w, hr, sl_tail, source_fault_ok tys h]
    | false => simp [-R.bind, -inD_str, place_fault_ok, hp, rsO_nis, e1, e2, head_ty, in_w, hr, rsO_mw]
theorem function_of_ok (fs : List Fc) (f : Nm) (g : Fc) (h : fs.find? (fun g => g.name == f) = some g) : Ir.function_of.fn [some (.fz (.lst (fs.map fcD))), some (.fz (.str f))] = .ok (.fz (fcD g)) [none, none] := by
  simp [-R.bind, Ir.function_of, fn_def]
  have key : ∀ (l : List Fc) (s2 : Slot), l.find? (fun g => g.name == f) = some g → ∀ (body : Ev → SR) (kk : Ev → SR), (∀ (q : Fc) (s2 : Slot), body [some (.fz (.lst (fs.map fcD))), some (.fz (.str f)), some (.fz (fcD q))] = if q.name = f then .ret (.fz (fcD q)) [some (.fz (.lst (fs.map fcD))), some (.fz (.str f)), some (.fz (fcD q))] else .nx [some (.fz (.lst (fs.map fcD))), some (.fz (.str f)), some (.fz (fcD q))]) →
      endOf [false, false] ((forGo (.nm 2) body (l.map fcD) [some (.fz (.lst (fs.map fcD))), some (.fz (.str f)), s2]).sq kk) = .ok (.fz (fcD g)) [none, none] := by
    intro l
    induction l with
    | nil => intro s2 h; cases h
    | cons q l ih =>
      intro s2 h body kk hb
      rw [List.find?_cons] at h
      rw [List.map_cons, forGo_nm]
      show endOf _ (((body [_, _, some (.fz (fcD q))]).lp _).sq kk) = _
      rw [hb q s2]
      by_cases hq : q.name = f
      · have : (q.name == f) = true := by simpa using hq
        rw [this] at h
        cases h
        rw [if_pos hq]; rfl
      · have : (q.name == f) = false := by simpa using hq
        rw [this] at h
        rw [if_neg hq]
        exact ih _ h body kk hb
  refine key fs none h _ _ ?_
  intro q s2
  simp [-R.bind, att_name]
theorem zipD_get : ∀ (xs ys : List D) (i : Nat) (d : D), (zipD xs ys)[i]? = some d → ∃ x y, xs[i]? = some x ∧ ys[i]? = some y ∧ d = .tup [x, y]
  | [], ys, i, d, h => by simp [zipD] at h
  | x :: xs, [], i, d, h => by simp [zipD] at h
  | x :: xs, y :: ys, 0, d, h => by simp [zipD] at h; exact ⟨x, y, rfl, rfl, h.symm⟩
  | x :: xs, y :: ys, i + 1, d, h => by
    obtain ⟨a, b, h1, h2, h3⟩ := zipD_get xs ys i d (by simpa [zipD] using h)
    exact ⟨a, b, by simpa using h1, by simpa using h2, h3⟩
theorem find_none : ∀ (fs : List Fc) (f : Nm), fs.find? (fun g => g.name == f) = none → (fs.map fun g => (g.name, g.params.length)).lookup f = none
  | [], _, _ => rfl
  | g :: fs, f, hq => by
    rw [List.find?_cons] at hq
    rw [List.map_cons, List.lookup_cons]
    cases z : g.name == f with
    | true => rw [z] at hq; cases hq
    | false =>
      rw [z] at hq
      have : (f == g.name) = false := by
        have : ¬ g.name = f := by simpa using z
        simpa using fun e => this e.symm
      rw [this]; exact find_none fs f hq
theorem zipD_len : ∀ (xs ys : List D), (zipD xs ys).length = min xs.length ys.length
  | [], ys => by simp [zipD]
  | x :: xs, [] => by simp [zipD]
  | x :: xs, y :: ys => by simp [zipD, zipD_len xs ys]
theorem drop_of_get {α : Type} {l : List α} {i : Nat} {x : α} (h : l[i]? = some x) : l.drop i = x :: l.drop (i + 1) := by
  obtain ⟨h1, rfl⟩ := List.getElem?_eq_some_iff.mp h
  exact List.drop_eq_getElem_cons h1
theorem statement_fault_ok (fs : List Fc) (tys : Tys) (h : TysOk tys) (s : St) (ex : Ext) (hc : callOk fs s = true) : Ir.statement_fault.fn [some (.fz (.lst (fs.map fcD))), some (.dic (tysD tys)), some (.fz (stD s)), some (.fz (extD ex))] = .ok (.fz (rsO (stF fs tys s ex))) [none, some (.dic (tysD tys)), none, none] := by
  simp only [Ir.statement_fault, fn_def]
  cases s with
  | lt x t s =>
    simp [-R.bind, stD, sl_tail, source_fault_ok tys h, stF]
  | pt x k s =>
    simp [-R.bind, stD, put_fault_ok tys h, stF]
  | cl f ss =>
    have hc : (match (fs.map fun g => (g.name, g.params.length)).lookup f with
      | some n => n == ss.length
      | none => false) = true := hc
    have hg : ∃ g, fs.find? (fun g => g.name == f) = some g := by
      cases hq : fs.find? (fun g => g.name == f) with
      | some g => exact ⟨g, rfl⟩
      | none => rw [find_none fs f hq] at hc; cases hc
    obtain ⟨g, hg⟩ := hg
    have e1 : stF fs tys (.cl f ss) ex = firstF ((g.params.zip ss).map fun q => srcF tys q.2 q.1.2.tail ex) := by
      show (match fs.find? (fun g => g.name == f) with | some g => _ | none => _) = _
      rw [hg]
    rw [e1]
    simp [-R.bind, stD, function_of_ok fs f g hg, att_params]
    refine forGo_rule (P := fun r => endOf [false, true, false, false] r = .ok (.fz (rsO (firstF ((g.params.zip ss).map fun q => srcF tys q.2 q.1.2.tail ex)))) [none, some (.dic (tysD tys)), none, none])
      (fun i e => ∃ s5 s6 s7 s8, firstF ((g.params.zip ss).map fun q => srcF tys q.2 q.1.2.tail ex) = firstF (((g.params.zip ss).drop i).map fun q => srcF tys q.2 q.1.2.tail ex) ∧ e = [some (.fz (.lst (fs.map fcD))), some (.dic (tysD tys)), some (.fz (.tup [kCall, .str f, .lst (ss.map srcD)])), some (.fz (extD ex)), some (.fz (fcD g)), s5, s6, s7, s8]) ⟨_, _, _, _, rfl, rfl⟩ ?_ ?_
    · rintro i d e hd ⟨s5, s6, s7, s8, h1, rfl⟩
      obtain ⟨x, y, hx, hy, rfl⟩ := zipD_get _ _ _ _ hd
      obtain ⟨p, hp, rfl⟩ := get_map hx
      obtain ⟨s, hs, rfl⟩ := get_map hy
      have hz : (g.params.zip ss)[i]? = some (p, s) := by rw [List.getElem?_zip_eq_some]; exact ⟨hp, hs⟩
      rw [h1, drop_of_get hz]
      refine ⟨_, rfl, ?_⟩
      cases hv : srcF tys s p.2.tail ex with
      | some r => simp [-R.bind, sl_tail, source_fault_ok tys h, hv, rsO_nis, firstF]
      | none => simp [-R.bind, sl_tail, source_fault_ok tys h, hv, rsO_nis, firstF]
    · rintro e ⟨s5, s6, s7, s8, h1, rfl⟩
      rw [h1]
      have hl : (zipD (g.params.map parD) (ss.map srcD)).length = (g.params.zip ss).length := by simp [zipD_len]
      rw [hl, List.drop_length]
      simp [-R.bind, firstF, rsO]
end Pg
end

section
/-! a block judged; the program judged -/
namespace Pg
open PySem Rx Lw
theorem putT_ok {tys : Tys} (h : TysOk tys) (x : Nm) {t : List Rt} (ht : typeOk t = true) : TysOk (putT tys x t) := by
  intro p hp
  unfold putT at hp
  split at hp
  · obtain ⟨q, hq, rfl⟩ := List.mem_map.mp hp
    split
    · exact ht
    · exact h q hq
  · rcases List.mem_append.mp hp with h1 | h1
    · exact h p h1
    · simp at h1; subst h1; exact ht
theorem putT_len (tys : Tys) (x : Nm) (t : List Rt) : (putT tys x t).length ≤ tys.length + 1 := by
  unfold putT; split <;> simp
theorem st_lt_t {x : Nm} {t : List Rt} {s : Src} (h : stOk (.lt x t s) = true) : typeOk t = true := by
  simp only [stOk, Bool.and_eq_true] at h; exact h.1.2
theorem stepT_ok {tys : Tys} (h : TysOk tys) {s : St} (hs : stOk s = true) : TysOk (stepT tys s) := by
  cases s with
  | lt x t s => exact putT_ok h x (st_lt_t hs)
  | pt x k s => exact h
  | cl f ss => exact h
theorem stepT_len (tys : Tys) (s : St) : (stepT tys s).length ≤ tys.length + 1 := by
  cases s with
  | lt x t s => exact putT_len tys x t
  | pt x k s => simp [stepT]
  | cl f ss => simp [stepT]
theorem sto_tys (tys : Tys) (x : Nm) (t : List Rt) (h : tys.length < sizeMax) : stoO (.str x) (.fz (tyD t)) (.dic (tysD tys)) = some (.dic (tysD (putT tys x t))) := by
  show (if isKey (.str x) = true ∧ (tysD tys).length < sizeMax then some (OT.dic (putD (tysD tys) (.str x) (tyD t))) else none) = _
  rw [putD_tys, if_pos ⟨rfl, by simpa using h⟩]
theorem app_ml (xs : List D) (d : D) (h : xs.length < sizeMax) : appO (.fz d) (.ml xs) = some (.ml (xs ++ [d])) := by
  show (if (xs.map OT.fz).length < sizeMax then some (OT.lst (xs.map OT.fz ++ [.fz d])) else none) = _
  rw [if_pos (by simpa using h)]; simp
theorem blockF_len (fs : List Fc) (ex : Ext) : ∀ (l : List St) (n : Nat) (tys : Tys), (blockF fs ex n tys l).length ≤ l.length
  | [], _, _ => by simp [blockF]
  | s :: l, n, tys => by
    have := blockF_len fs ex l (n + 1) (stepT tys s)
    rw [blockF]
    cases stF fs tys s ex with
    | none => simp; omega
    | some r => simp; omega
theorem enumD_length : ∀ (xs : List D) (n : Nat), (enumD n xs).length = xs.length
  | [], _ => rfl
  | x :: xs, n => by simp [enumD, enumD_length xs (n + 1)]
theorem rsd_nis (r : Rs) : nisD r.d .non = some true := by cases r <;> rfl
theorem st_head (s : St) : ixK (stD s) (.int 0) = some (match s with | .lt _ _ _ => kLet | .pt _ _ _ => kPut | .cl _ _ => kCall) := by cases s <;> rfl
theorem block_faults_ok (fs : List Fc) (f : Nm) (tys : Tys) (h : TysOk tys) (l : List St) (ex : Ext) (hc : callsOk fs l = true) (ho : ∀ s ∈ l, stOk s = true) (hl : l.length ≤ 1000) (hz : tys.length ≤ 1000) :
    Ir.block_faults.fn [some (.fz (.lst (fs.map fcD))), some (.fz (.str f)), some (.dic (tysD tys)), some (.fz (.lst (l.map stD))), some (.fz (extD ex))] = .ok (.fz (.lst ((blockF fs ex 0 tys l).map (faD f)))) [none, none, some (.dic (tysD (l.foldl stepT tys))), none, none] := by
  simp only [Ir.block_faults, fn_def]
  simp [-R.bind]
  refine forGo_rule (P := fun r => endOf [false, false, true, false, false] r = .ok (.fz (.lst ((blockF fs ex 0 tys l).map (faD f)))) [none, none, some (.dic (tysD (l.foldl stepT tys))), none, none])
    (fun i e => ∃ s6 s7 s8 acc ty, TysOk ty ∧ ty.length ≤ tys.length + i ∧ acc.length ≤ i ∧ acc ++ blockF fs ex i ty (l.drop i) = blockF fs ex 0 tys l ∧ (l.drop i).foldl stepT ty = l.foldl stepT tys ∧
      e = [some (.fz (.lst (fs.map fcD))), some (.fz (.str f)), some (.dic (tysD ty)), some (.fz (.lst (l.map stD))), some (.fz (extD ex)), some (.ml (acc.map (faD f))), s6, s7, s8]) ⟨none, none, none, [], tys, h, by omega, by simp, rfl, rfl, rfl⟩ ?_ ?_
  · rintro i d e hd ⟨s6, s7, s8, acc, ty, h1, h2, h3, h4, h5, rfl⟩
    obtain ⟨x, hx, rfl⟩ := enumD_get _ _ _ _ hd
    obtain ⟨s, hs, rfl⟩ := get_map hx
    have hi : i < l.length := (List.getElem?_eq_some_iff.mp hs).1
    have hm : s ∈ l := List.mem_of_getElem? hs
    have hcs : callOk fs s = true := by
      unfold callsOk at hc
      exact List.all_eq_true.mp hc s hm
    have hso := ho s hm
    have hsf := statement_fault_ok fs ty h1 s ex hcs
    rw [drop_of_get hs] at h4 h5
    refine ⟨_, rfl, ?_⟩
    have g1 : acc.length < sizeMax := by unfold sizeMax; omega
    have g2 : ty.length < sizeMax := by unfold sizeMax; omega
    have ha : ∀ r : Rs, appO (.fz (.tup [.str f, .int i, r.d])) (.ml (acc.map (faD f))) = some (.ml ((acc ++ [(i, r)]).map (faD f))) := by
      intro r
      rw [app_ml _ _ (by simpa using g1)]
      simp [faD]
    rw [blockF] at h4
    rw [List.foldl_cons] at h5
    generalize hst : stD s = sd
    rw [hst] at hsf
    have hh := st_head s
    rw [hst] at hh
    generalize hfu : fs.map fcD = fu at *
    generalize hld : l.map stD = ld at *
    have o1 := stepT_ok h1 hso
    have o2 : (stepT ty s).length ≤ tys.length + (i + 1) := by have := stepT_len ty s; omega
    cases hv : stF fs ty s ex with
    | none =>
      rw [hv] at hsf h4
      cases s with
      | lt x t q =>
        subst hst
        simp only [stD] at hsf hh
        simp [-R.bind, -List.map_append, -List.map_map, -appO, ha, hsf, rsO_nis, hh, stD, sto_tys ty x t g2]
        exact ⟨_, _, _, acc, _, o1, o2, by omega, by simpa using h4, h5, rfl, rfl, rfl, rfl, rfl⟩
      | pt x k q =>
        simp [-R.bind, -List.map_append, -List.map_map, -appO, ha, hsf, rsO_nis, hh]
        exact ⟨_, _, _, acc, _, o1, o2, by omega, by simpa using h4, h5, rfl, rfl, rfl, rfl, rfl⟩
      | cl g ss =>
        simp [-R.bind, -List.map_append, -List.map_map, -appO, ha, hsf, rsO_nis, hh]
        exact ⟨_, _, _, acc, _, o1, o2, by omega, by simpa using h4, h5, rfl, rfl, rfl, rfl, rfl⟩
    | some r =>
      rw [hv] at hsf h4
      have h4' : (acc ++ [(i, r)]) ++ blockF fs ex (i + 1) (stepT ty s) (l.drop (i + 1)) = blockF fs ex 0 tys l := by rw [List.append_assoc]; exact h4
      have a1 : (acc ++ [(i, r)]).length ≤ i + 1 := by simp; omega
      have hr : rsO (some r) = r.d := rfl
      cases s with
      | lt x t q =>
        subst hst
        simp only [stD] at hsf hh
        simp [-R.bind, -List.map_append, -List.map_map, -appO, ha, hsf, rsO_nis, rsd_nis, hh, stD, hr, sto_tys ty x t g2]
        exact ⟨_, _, _, acc ++ [(i, r)], _, o1, o2, a1, h4', h5, rfl, rfl, rfl, rfl, rfl⟩
      | pt x k q =>
        simp [-R.bind, -List.map_append, -List.map_map, -appO, ha, hsf, rsO_nis, rsd_nis, hh, hr]
        exact ⟨_, _, _, acc ++ [(i, r)], _, o1, o2, a1, h4', h5, rfl, rfl, rfl, rfl, rfl⟩
      | cl g ss =>
        simp [-R.bind, -List.map_append, -List.map_map, -appO, ha, hsf, rsO_nis, rsd_nis, hh, hr]
        exact ⟨_, _, _, acc ++ [(i, r)], _, o1, o2, a1, h4', h5, rfl, rfl, rfl, rfl, rfl⟩
  · rintro e ⟨s6, s7, s8, acc, ty, h1, h2, h3, h4, h5, rfl⟩
    rw [enumD_length, List.length_map, List.drop_length] at h4 h5
    simp [blockF] at h4
    simp at h5
    subst h4 h5
    simp [-R.bind]
end Pg
end

section
/-! the program's faults -/
namespace Pg
open PySem Rx Lw
theorem lookup_take {fs : List Fc} {i : Nat} {f : Nm} {n : Nat} (h : ((fs.take i).map fun g => (g.name, g.params.length)).lookup f = some n) : (fs.map fun g => (g.name, g.params.length)).lookup f = some n := by
  conv => lhs; rw [← List.take_append_drop i fs]
  rw [List.map_append, List.lookup_append, h]; rfl
theorem calls_take {fs : List Fc} {i : Nat} {l : List St} (h : callsOk (fs.take i) l = true) : callsOk fs l = true := by
  unfold callsOk at h ⊢
  rw [List.all_eq_true] at h ⊢
  intro s hs
  have := h s hs
  cases s with
  | lt x t s => rfl
  | pt x k s => rfl
  | cl f ss =>
    simp only [callOk] at this ⊢
    cases hq : ((fs.take i).map fun g => (g.name, g.params.length)).lookup f with
    | none => rw [hq] at this; cases this
    | some n => rw [hq] at this; rw [lookup_take hq]; exact this
theorem Ok.params {p : Prg} (h : Ok p) {f : Fc} (hf : f ∈ p.funs) : (f.params.map (·.1)).Nodup := by
  have h1 := (List.nodup_append.mp h.nodup).2.1
  unfold namesOf at h1
  have h2 := (List.nodup_append.mp h1).1
  have h3 := (List.pairwise_flatMap.mp h2).1 f hf
  exact (List.nodup_append.mp h3).1
theorem fcOk_parts {f : Fc} (h : fcOk f = true) : f.params.length ≤ 4 ∧ TysOk f.params ∧ f.body.length ≤ 12 ∧ ∀ s ∈ f.body, stOk s = true := by
  simp only [fcOk, Bool.and_eq_true, decide_eq_true_eq, List.all_eq_true] at h
  obtain ⟨⟨⟨⟨h1, h2⟩, h3⟩, h4⟩, h5⟩ := h
  exact ⟨h2, fun p hp => (h3 p hp).2, h4, h5⟩
def fnF (p : Prg) (ex : Ext) (f : Fc) : List D := (blockF p.funs ex 0 f.params f.body).map (faD f.name)
theorem fnF_len (p : Prg) (ex : Ext) (f : Fc) : (fnF p ex f).length ≤ f.body.length := by
  unfold fnF; rw [List.length_map]; exact blockF_len _ _ _ _ _
theorem flat_len {α β : Type} (g : α → List β) (n : Nat) : ∀ (l : List α), (∀ x ∈ l, (g x).length ≤ n) → (l.flatMap g).length ≤ l.length * n
  | [], _ => by simp
  | x :: l, h => by
    have h1 := flat_len g n l fun y hy => h y (List.mem_cons_of_mem _ hy)
    have h2 := h x List.mem_cons_self
    rw [List.flatMap_cons, List.length_append, List.length_cons, Nat.add_mul]
    omega
theorem fnF_flat {p : Prg} (h : Ok p) (ex : Ext) (i : Nat) : ((p.funs.take i).flatMap (fnF p ex)).length ≤ 48 := by
  have := flat_len (fnF p ex) 12 (p.funs.take i) (fun f hf => by
    have h1 := (fcOk_parts (h.funs f (List.mem_of_mem_take hf))).2.2.1
    have h2 := fnF_len p ex f
    omega)
  have h2 := h.few
  have h3 : (p.funs.take i).length ≤ 4 := by rw [List.length_take]; omega
  omega
theorem take_flat {α β : Type} (g : α → List β) {l : List α} {i : Nat} {x : α} (h : l[i]? = some x) : (l.take (i + 1)).flatMap g = (l.take i).flatMap g ++ g x := by
  rw [List.take_add_one, h]; simp
theorem faults_ok (p : Prg) (h : Ok p) (ex : Ext) : Ir.faults.fn [some (.fz (prD p)), some (.fz (extD ex))] = .ok (.fz (.lst (faultsF p ex))) [none, none] := by
  have hlast := block_faults_ok p.funs [] [] (fun _ h => nomatch h) p.stmts ex h.calls h.stmts (by have := h.most; omega) (by simp)
  have e0 : tysD [] = [] := rfl
  rw [e0] at hlast
  have hll := blockF_len p.funs ex p.stmts 0 []
  have hm := h.most
  simp only [Ir.faults, fn_def]
  have hfun := att_functions p
  have hsts := att_statements p
  generalize hpd : prD p = pd at hfun hsts
  simp [-R.bind, hfun]
  refine forGo_rule (P := fun r => endOf [false, false] r = .ok (.fz (.lst (faultsF p ex))) [none, none]) (fun i e => ∃ s3 s4, e = [some (.fz pd), some (.fz (extD ex)), some (.ml ((p.funs.take i).flatMap (fnF p ex))), s3, s4, none, none]) ⟨_, _, rfl⟩ ?_ ?_
  · rintro i d e hd ⟨s3, s4, rfl⟩
    obtain ⟨f, hf, rfl⟩ := get_map hd
    have hm := List.mem_of_getElem? hf
    obtain ⟨o1, o2, o3, o4⟩ := fcOk_parts (h.funs f hm)
    have hb := block_faults_ok p.funs f.name f.params o2 f.body ex (calls_take (h.body i f hf)) o4 (by omega) (by omega)
    have hb2 : (fnF p ex f).length ≤ 12 := by have := fnF_len p ex f; omega
    have hb3 := fnF_flat h ex i
    have hfn : (blockF p.funs ex 0 f.params f.body).map (faD f.name) = fnF p ex f := rfl
    rw [hfn] at hb
    rw [take_flat _ hf]
    generalize (p.funs.take i).flatMap (fnF p ex) = acc at hb3
    generalize fnF p ex f = new at hb hb2
    have hx := ext_ml acc new
    rw [if_pos (by unfold sizeMax; omega)] at hx
    refine ⟨_, rfl, ?_⟩
    have hp := att_params f
    have hn := att_name f
    have hbd := att_body f
    generalize fcD f = fd at hp hn hbd
    generalize hfs : p.funs.map fcD = fs at hb hfun
    simp [-R.bind, -List.map_map, hp]
    rw [dc_map (fun d => (match d with | .tup [a, b] => a | _ => .non)) (fun d => (match d with | .tup [a, b] => b | _ => .non))]
    · have e2 : (f.params.map parD).map (fun d => ((match d with | .tup [a, b] => a | _ => .non), (match d with | .tup [a, b] => b | _ => .non))) = tysD f.params := by rw [List.map_map]; rfl
      rw [e2]
      simp [-R.bind, -List.map_map, -List.map_append, hp, hn, hbd, hfun, hb, hx]
    · rfl
    · rfl
    · have := nodup_str (h.params hm)
      rw [List.map_map] at this
      rw [List.map_map]
      exact this
    · simp; unfold sizeMax; omega
    · intro d hd
      obtain ⟨q, hq, rfl⟩ := List.mem_map.mp hd
      exact ⟨_, .fz (.str q.1), .fz (tyD q.2), rfl, rfl, rfl, rfl, rfl, rfl, rfl⟩
  · rintro e ⟨s3, s4, rfl⟩
    rw [List.length_map, List.take_length]
    have hb3 := fnF_flat h ex p.funs.length
    rw [List.take_length] at hb3
    have hr : faultsF p ex = p.funs.flatMap (fnF p ex) ++ (blockF p.funs ex 0 [] p.stmts).map (faD []) := rfl
    rw [hr]
    have hl2 : ((blockF p.funs ex 0 [] p.stmts).map (faD [])).length ≤ 40 := by rw [List.length_map]; omega
    generalize p.funs.flatMap (fnF p ex) = acc at hb3
    generalize (blockF p.funs ex 0 [] p.stmts).map (faD []) = new at hlast hl2
    have z : acc.length + new.length ≤ sizeMax := by unfold sizeMax; omega
    generalize p.funs.map fcD = fs at *
    simp [-R.bind, -List.map_map, -List.map_append, hfun, hsts, hlast, z]
theorem is_let_by_ok (p : Prg) (h : Ok p) (ex : Ext) : Ir.is_let_by.fn [some (.fz (prD p)), some (.fz (extD ex))] = .ok (.fz (.bl (decide (faultsF p ex = [])))) [none, none] := by
  have hf := faults_ok p h ex
  generalize faultsF p ex = fl at hf
  simp [-R.bind, Ir.is_let_by, fn_def, hf]
  cases fl <;> simp [D.truth]
end Pg
end

section
/-! worlds: what statements do to things (plain), and that the program's own acting does it -/
namespace Pg
open PySem Rx
/-- what a thing holds -/
inductive Vl where
  | num (n : Nat) | null | th (n : Nat)
  deriving DecidableEq
def vD : Vl → D
  | .num n => .int n
  | .null => .non
  | .th n => .tup [.str [116, 104, 105, 110, 103], .int n]
structure Th where
  name : Nm
  kind : List Rt
  val : Vl
/-- things, breaches (true: read), how many statements were executed -/
structure Wd where
  things : List Th
  br : List (Bool × Nat)
  ex : Nat
def brD (b : Bool × Nat) : D := .tup [.str (if b.1 then [114] else [119]), .int b.2]
abbrev thT (q : Th) : OT := .ins "Thing" [("name", .fz (.str q.name)), ("kind", .fz (tyD q.kind)), ("value", .fz (vD q.val))]
/-- a world's attributes -/
def wF (w : Wd) : List (Str × OT) := [("things", .lst (w.things.map thT)), ("breaches", .lst (w.br.map fun b => .fz (brD b))), ("executed", .fz (.int w.ex))]
abbrev wT (w : Wd) : OT := .ins "World" (wF w)
def Wd.brk (w : Wd) (c : Bool) (n : Nat) (ok : Bool) : Wd := if ok then w else { w with br := w.br ++ [(c, n)] }
/-- all lists are short -/
def Wd.few (w : Wd) : Bool := decide (w.br.length < 1000000) && decide (w.things.length < 1000000)
def Wd.read (w : Wd) (n : Nat) : Option (Vl × Wd) := match w.things[n]? with
  | some q => (match q.kind with
    | x :: _ => if w.few then some (q.val, w.brk true n x.r) else none
    | [] => none)
  | none => none
def Wd.write (w : Wd) (n : Nat) (v : Vl) : Option Wd := match w.things[n]? with
  | some q => (match q.kind with
    | x :: _ => if w.few then some { w.brk false n x.w with things := w.things.set n { q with val := v } } else none
    | [] => none)
  | none => none
def Wd.make (w : Wd) (x : Nm) (t : List Rt) (v : Vl) : Option Wd := if w.few then some { w with things := w.things ++ [⟨x, t, v⟩] } else none
abbrev Kn := List (Nm × Nat)
abbrev knD (kn : Kn) : List (D × D) := kn.map fun p => (D.str p.1, intD p.2)
def putN (kn : Kn) (x : Nm) (n : Nat) : Kn := if (kn.any fun p => p.1 == x) then kn.map fun p => if p.1 == x then (x, n) else p else kn ++ [(x, n)]
/-- following: none: null was to be followed -/
def follow (w : Wd) (n : Nat) : Nat → Option (Option Nat × Wd)
  | 0 => some (some n, w)
  | k + 1 => match w.read n with
    | none => none
    | some (v, w') => (match v with
      | .null => some (none, w')
      | .th m => follow w' m k
      | .num _ => none)
def thingAt (w : Wd) (kn : Kn) (x : Nm) (k : Nat) : Option (Option Nat × Wd) := match kn.lookup x with
  | none => none
  | some n => follow w n k
def lookedUp (w : Wd) (kn : Kn) : Src → Option (Option Vl × Wd)
  | .num n => some (some (.num n), w)
  | .null => some (some .null, w)
  | .adr x k => (match thingAt w kn x k with
    | none => none
    | some (none, w') => some (none, w')
    | some (some n, w') => some (some (.th n), w'))
  | .val x k => (match thingAt w kn x k with
    | none => none
    | some (none, w') => some (none, w')
    | some (some n, w') => (match w'.read n with
      | none => none
      | some (v, w2) => some (some v, w2)))
def allLooked (w : Wd) (kn : Kn) : List Src → Option (Option (List Vl) × Wd)
  | [] => some (some [], w)
  | s :: r => match lookedUp w kn s with
    | none => none
    | some (none, w') => some (none, w')
    | some (some v, w') => (match allLooked w' kn r with
      | none => none
      | some (none, w2) => some (none, w2)
      | some (some vs, w2) => some (some (v :: vs), w2))
def putW (w : Wd) (kn : Kn) (x : Nm) (k : Nat) (s : Src) : Option (Bool × Wd) := match thingAt w kn x k with
  | none => none
  | some (none, w') => some (false, w')
  | some (some n, w') => (match lookedUp w' kn s with
    | none => none
    | some (none, w2) => some (false, w2)
    | some (some v, w2) => (match w2.write n v with
      | none => none
      | some w3 => some (true, w3)))
def makeAll (w : Wd) (inner : Kn) : List (Nm × List Rt) → List Vl → Option (Wd × Kn)
  | p :: ps, v :: vs => (match w.make p.1 p.2 v with
    | none => none
    | some w' => if inner.length < 1000 then makeAll w' (putN inner p.1 w.things.length) ps vs else none)
  | _, _ => some (w, inner)
/-- how an act ends -/
inductive Ar where
  | bad | long (w : Wd) (kn : Kn) | ok (b : Bool) (w : Wd) (kn : Kn)
def actAllF (act : Wd → Kn → St → Ar) : Wd → Kn → List St → Ar
  | w, kn, [] => .ok true w kn
  | w, kn, s :: r => match act w kn s with
    | .ok true w' kn' => actAllF act w' kn' r
    | x => x
def callF (act : Wd → Kn → St → Ar) (fs : List Fc) (w : Wd) (kn : Kn) (f : Nm) (ss : List Src) : Ar := match allLooked w kn ss with
  | none => .bad
  | some (none, w2) => .ok false w2 kn
  | some (some vs, w2) => (match fs.find? (fun g => g.name == f) with
    | none => .bad
    | some g => (match makeAll w2 [] g.params vs with
      | none => .bad
      | some (w3, inner) => (match actAllF act w3 inner g.body with
        | .bad => .bad
        | .long w4 _ => .long w4 kn
        | .ok b w4 _ => .ok b w4 kn)))
def letW (w : Wd) (kn : Kn) (x : Nm) (t : List Rt) (s : Src) : Ar := match lookedUp w kn s with
  | none => .bad
  | some (none, w') => .ok false w' kn
  | some (some v, w') => (match w'.make x t v with
    | none => .bad
    | some w2 => if kn.length < 1000 then .ok true w2 (putN kn x w'.things.length) else .bad)
def Wd.tick (w : Wd) : Wd := { w with ex := w.ex + 1 }
def actF (fs : List Fc) : Nat → Wd → Kn → St → Ar
  | 0, _, _, _ => .bad
  | n + 1, w, kn, s => if 1000 < w.tick.ex then .long w.tick kn else match s with
    | .cl f ss => callF (actF fs n) fs w.tick kn f ss
    | .pt x k s => (match putW w.tick kn x k s with
      | none => .bad
      | some (b, w') => .ok b w' kn)
    | .lt x t s => letW w.tick kn x t s
/-! ### the program does it -/
theorem lookD_kn (kn : Kn) (x : Nm) : lookD (knD kn) (.str x) = (kn.lookup x).map intD := by
  have := lookD_map (fun p : Nm × Nat => p.1) (fun p => intD p.2) kn x
  rw [this]
  induction kn with
  | nil => rfl
  | cons a kn ih =>
    rw [List.map_cons, List.lookup_cons, List.lookup_cons]
    cases x == a.1 with
    | true => rfl
    | false => exact ih (lookD_map (fun p : Nm × Nat => p.1) (fun p => intD p.2) kn x)
theorem putD_kn (kn : Kn) (x : Nm) (n : Nat) : putD (knD kn) (.str x) (intD n) = knD (putN kn x n) := by
  have hh : hasD (knD kn) (.str x) = kn.any fun p => p.1 == x := by
    unfold hasD knD
    rw [List.any_map]
    congr 1; funext p
    show decide (D.str p.1 = D.str x) = _
    by_cases h : p.1 = x
    · simp [h]
    · have : ¬ D.str p.1 = D.str x := fun e => h (D.str.inj e)
      simp [h, this]
  unfold putD putN
  rw [hh]
  cases kn.any fun p => p.1 == x with
  | false => simp [knD]
  | true =>
    simp only [if_true, knD, List.map_map]
    apply List.map_congr_left
    intro p _
    show (if D.str p.1 = D.str x then (D.str x, intD n) else (D.str p.1, intD p.2)) = _
    by_cases h : p.1 = x
    · simp [h]
    · have : ¬ D.str p.1 = D.str x := fun e => h (D.str.inj e)
      simp [h, this]
theorem run_hk (f : List (Option OT) → Option (Option OT × List (Option OT))) (e : Ev) : run1 (.hk f) e = (match f e with
    | none => .bad
    | some (none, e') => .nx e'
    | some (some t, e') => .ret t e') := rfl
theorem Wd.few_br {w : Wd} (h : w.few = true) : w.br.length < sizeMax ∧ w.things.length < sizeMax := by
  unfold Wd.few at h
  simp at h
  unfold sizeMax; omega
theorem brk_eq (c : Bool) (n : Nat) (x : Rt) (w : Wd) : brk (if c then 114 else 119) (n : Int) x.s (w.br.map fun b => .fz (brD b)) = (w.brk c n (if c then x.r else x.w)).br.map fun b => OT.fz (brD b) := by
  unfold brk Wd.brk
  cases c <;> rcases x with ⟨_ | _, _ | _⟩ <;> simp [Rt.s, brD]
theorem plc_get {α : Type} {l : List α} {n : Nat} {x : α} (h : l[n]? = some x) : plc l.length (n : Int) = some n := by
  have := (List.getElem?_eq_some_iff.mp h).1
  rw [plc_nat, if_pos this]
theorem read_ok {w w' : Wd} {n : Nat} {v : Vl} (h : w.read n = some (v, w')) : Ir.World_read.fn [some (wT w), some (.fz (.int n))] = .ok (.fz (vD v)) [some (wT w'), none] := by
  unfold Wd.read at h
  cases hq : w.things[n]? with
  | none => rw [hq] at h; cases h
  | some q =>
    rw [hq] at h
    obtain ⟨nm, t, vl⟩ := q
    cases t with
    | nil => cases h
    | cons x a =>
      have h : (if w.few then some (vl, w.brk true n x.r) else none) = some (v, w') := h
      by_cases hf : w.few = true
      · rw [if_pos hf] at h
        cases h
        have ht : (w.things.map thT)[n]? = some (thO (.fz (.str nm)) x.s (a.map Rt.d) (.fz (vD v))) := by rw [List.getElem?_map, hq]; rfl
        have hp : plc (w.things.map thT).length (n : Int) = some n := by rw [List.length_map]; exact plc_get hq
        have hr := readS_of (ReadR.mk (bs := w.br.map fun b => .fz (brD b)) (x := .fz (.int w.ex)) (s2 := none) hp ht (by rw [List.length_map]; exact (Wd.few_br hf).1))
        have hb := brk_eq true n x w
        simp only [if_true] at hb
        rw [hb] at hr
        have hth : (w.brk true n x.r).things = w.things := by unfold Wd.brk; split <;> rfl
        have hex : (w.brk true n x.r).ex = w.ex := by unfold Wd.brk; split <;> rfl
        unfold Ir.World_read
        rw [fn_def]
        show endOf _ (((match readS [some (wO (w.things.map thT) (w.br.map fun b => .fz (brD b)) (.fz (.int w.ex))), some (.fz (.int n)), none] with
          | none => .bad
          | some (none, e') => .nx e'
          | some (some t, e') => .ret t e' : SR)).sq (run [])) = _
        rw [hr]
        show Out.ok _ [some (wO (w.things.map thT) _ (.fz (.int w.ex))), none] = Out.ok _ [some (wO ((w.brk true n x.r).things.map thT) _ (.fz (.int (w.brk true n x.r).ex))), none]
        rw [hth, hex]
      · rw [if_neg hf] at h; cases h
theorem write_ok {w w' : Wd} {n : Nat} {v : Vl} (h : w.write n v = some w') : Ir.World_write.fn [some (wT w), some (.fz (.int n)), some (.fz (vD v))] = .ok (.fz .non) [some (wT w'), none, none] := by
  unfold Wd.write at h
  cases hq : w.things[n]? with
  | none => rw [hq] at h; cases h
  | some q =>
    rw [hq] at h
    obtain ⟨nm, t, vl⟩ := q
    cases t with
    | nil => cases h
    | cons x a =>
      have h : (if w.few then some { w.brk false n x.w with things := w.things.set n ⟨nm, x :: a, v⟩ } else none) = some w' := h
      by_cases hf : w.few = true
      · rw [if_pos hf] at h
        cases h
        have ht : (w.things.map thT)[n]? = some (thO (.fz (.str nm)) x.s (a.map Rt.d) (.fz (vD vl))) := by rw [List.getElem?_map, hq]; rfl
        have hp : plc (w.things.map thT).length (n : Int) = some n := by rw [List.length_map]; exact plc_get hq
        have hr := writeS_of (WriteR.mk (bs := w.br.map fun b => .fz (brD b)) (x := .fz (.int w.ex)) (v := vD v) (s3 := none) hp ht (by rw [List.length_map]; exact (Wd.few_br hf).1))
        have hb := brk_eq false n x w
        simp only [Bool.false_eq_true, if_false] at hb
        rw [hb] at hr
        have hex : (w.brk false n x.w).ex = w.ex := by unfold Wd.brk; split <;> rfl
        have hset : (w.things.map thT).set n (thO (.fz (.str nm)) x.s (a.map Rt.d) (.fz (vD v))) = (w.things.set n ⟨nm, x :: a, v⟩).map thT := by rw [List.map_set]; rfl
        rw [hset] at hr
        unfold Ir.World_write
        rw [fn_def]
        show endOf _ (((match writeS [some (wO (w.things.map thT) (w.br.map fun b => .fz (brD b)) (.fz (.int w.ex))), some (.fz (.int n)), some (.fz (vD v)), none] with
          | none => .bad
          | some (none, e') => .nx e'
          | some (some t, e') => .ret t e' : SR)).sq (run [])) = _
        rw [hr]
        show Out.ok _ [some (wO _ _ (.fz (.int w.ex))), none, none] = Out.ok _ [some (wO _ _ (.fz (.int (w.brk false n x.w).ex))), none, none]
        rw [hex]
      · rw [if_neg hf] at h; cases h
@[simp] theorem lk_things (w : Wd) : (wF w).lookup ("things" : Str) = some (.lst (w.things.map thT)) := rfl
@[simp] theorem lk_ex (w : Wd) : (wF w).lookup ("executed" : Str) = some (.fz (.int w.ex)) := by
  show List.lookup _ [(("things" : Str), _), (("breaches" : Str), _), (("executed" : Str), _)] = _
  rw [List.lookup_cons, show (("executed" : Str) == "things") = false by decide, List.lookup_cons, show (("executed" : Str) == "breaches") = false by decide, List.lookup_cons, beq_self_eq_true]
theorem lk_no (w : Wd) (m : Str) (h1 : (m == "things") = false) (h2 : (m == "breaches") = false) (h3 : (m == "executed") = false) : (wF w).lookup m = none := by
  show List.lookup _ [(("things" : Str), _), (("breaches" : Str), _), (("executed" : Str), _)] = _
  rw [List.lookup_cons, h1, List.lookup_cons, h2, List.lookup_cons, h3]; rfl
@[simp] theorem lk_read (w : Wd) : (wF w).lookup ("read" : Str) = none := lk_no w _ (by decide) (by decide) (by decide)
@[simp] theorem lk_write (w : Wd) : (wF w).lookup ("write" : Str) = none := lk_no w _ (by decide) (by decide) (by decide)
@[simp] theorem lk_make (w : Wd) : (wF w).lookup ("make" : Str) = none := lk_no w _ (by decide) (by decide) (by decide)
@[simp] theorem wF_tick (w : Wd) : agaO "World" "executed" 1 (.ins "World" (wF w)) = some (.ins "World" (wF w.tick)) := by
  show (if ("World" : Str) = "World" ∧ (wF w).length < 1000 then (match (wF w).lookup ("executed" : Str) with
    | some (.fz (.int n)) => some (OT.ins "World" (putA ("executed" : Str) (.fz (.int (n + 1))) (wF w)))
    | _ => none) else none) = _
  rw [if_pos ⟨rfl, by show (3 : Nat) < 1000; decide⟩, lk_ex]
  show some (OT.ins "World" (putA ("executed" : Str) (.fz (.int ((w.ex : Int) + 1))) [(("things" : Str), _), (("breaches" : Str), _), (("executed" : Str), _)])) = _
  simp only [putA, if_neg (show ¬ (("things" : Str) = "executed") by decide), if_neg (show ¬ (("breaches" : Str) = "executed") by decide), if_true]
  rfl
theorem thing_init (x : Nm) (t : List Rt) (v : Vl) : Ir.Thing___init__.fn [some (.ins "Thing" []), some (.fz (.str x)), some (.fz (tyD t)), some (.fz (vD v))] = .ok (.fz .non) [some (thT ⟨x, t, v⟩), none, none, none] := by
  have e1 : ¬ (("name" : Str) = "kind") := by decide
  have e2 : ¬ (("name" : Str) = "value") := by decide
  have e3 : ¬ (("kind" : Str) = "value") := by decide
  simp [-R.bind, Ir.Thing___init__, fn_def, putA, e1, e2, e3]
theorem make_ok {w w' : Wd} {x : Nm} {t : List Rt} {v : Vl} (h : w.make x t v = some w') : Ir.World_make.fn [some (wT w), some (.fz (.str x)), some (.fz (tyD t)), some (.fz (vD v))] = .ok (.fz (intD w.things.length)) [some (wT w'), none, none, none] := by
  unfold Wd.make at h
  by_cases hf : w.few = true
  · rw [if_pos hf] at h
    cases h
    have hz := (Wd.few_br hf).2
    have h1 := thing_init x t v
    have hset : setAt [some (OT.ins "World" (wF w)), some (.fz (.str x)), some (.fz (tyD t)), some (.fz (vD v))] (appO (thT ⟨x, t, v⟩)) (.ins "World" (wF w)) [.f ["World"] "things"] = some (.ins "World" (wF { w with things := w.things ++ [⟨x, t, v⟩] })) := by
      show (if ("World" : Str) ∈ ([("World" : Str)] : List Str) then ((wF w).lookup ("things" : Str)).bind fun c1 => (appO (thT ⟨x, t, v⟩) c1).map fun c' => OT.ins "World" (putA ("things" : Str) c' (wF w)) else none) = _
      rw [if_pos (List.mem_singleton.mpr rfl), lk_things, Option.bind_some]
      show ((if (w.things.map thT).length < sizeMax then some (OT.lst (w.things.map thT ++ [thT ⟨x, t, v⟩])) else none).map _) = _
      rw [List.length_map, if_pos hz]
      show some (OT.ins "World" (putA ("things" : Str) _ [(("things" : Str), _), (("breaches" : Str), _), (("executed" : Str), _)])) = _
      simp only [putA, if_true]
      unfold wF
      simp
    simp [-R.bind, -setAt, Ir.World_make, fn_def, h1, hset]
  · rw [if_neg hf] at h; cases h
end Pg
end

section
/-! worlds: places, sources, stores -/
namespace Pg
open PySem Rx
def optN : Option Nat → D
  | none => .non
  | some n => intD n
def optV : Option Vl → D
  | none => .non
  | some v => .lst [vD v]
def optL : Option (List Vl) → D
  | none => .non
  | some vs => .lst (vs.map vD)
theorem follow_step {w : Wd} {n k : Nat} {r : Option Nat × Wd} (h : follow w n (k + 1) = some r) : ∃ v w', w.read n = some (v, w') ∧ ((v = .null ∧ r = (none, w')) ∨ ∃ m, v = .th m ∧ follow w' m k = some r) := by
  unfold follow at h
  cases hr : w.read n with
  | none => rw [hr] at h; cases h
  | some q =>
    obtain ⟨v, w'⟩ := q
    rw [hr] at h
    cases v with
    | num _ => cases h
    | null => cases h; exact ⟨_, _, rfl, .inl ⟨rfl, rfl⟩⟩
    | th m => exact ⟨_, _, rfl, .inr ⟨m, rfl, h⟩⟩
theorem thing_at_ok {w w' : Wd} {kn : Kn} {x : Nm} {k : Nat} {r : Option Nat} (hk : k ≤ 1000) (h : thingAt w kn x k = some (r, w')) : Ir._thing_at.fn [some (wT w), some (.dic (knD kn)), some (.fz (plD x k))] = .ok (.fz (optN r)) [some (wT w'), some (.dic (knD kn)), none] := by
  unfold thingAt at h
  cases hx : kn.lookup x with
  | none => rw [hx] at h; cases h
  | some n0 =>
    rw [hx] at h
    have h : follow w n0 k = some (r, w') := h
    have hl := lookD_kn kn x
    rw [hx] at hl
    have hl : lookD (knD kn) (.str x) = some (intD n0) := hl
    have hrg := rngO_nat (n := k) (by omega)
    simp only [Ir._thing_at, fn_def]
    generalize knD kn = kd at *
    simp [-R.bind, plD, hl, hrg]
    refine forGo_rule (P := fun r' => endOf [true, true, false] r' = Out.ok (.fz (optN r)) [some (wT w'), some (.dic kd), none])
      (fun i e => ∃ n w1 s4 s5, follow w1 n (k - i) = some (r, w') ∧ e = [some (wT w1), some (.dic kd), some (.fz (.tup [.str x, .int k])), some (.fz (intD n)), s4, s5]) ⟨n0, w, _, _, h, rfl⟩ ?_ ?_
    · rintro i d e hd ⟨n, w1, s4, s5, hf, rfl⟩
      simp [-R.bind] at hd
      obtain ⟨hi, rfl⟩ := hd
      refine ⟨_, rfl, ?_⟩
      rw [show k - i = (k - (i + 1)) + 1 by omega] at hf
      obtain ⟨v, w2, hr, hc⟩ := follow_step hf
      have hro := read_ok hr
      rcases hc with ⟨rfl, hc⟩ | ⟨m, rfl, hc⟩
      · cases hc
        have hro : Ir.World_read.fn [some (.ins "World" (wF w1)), some (.fz (.int n))] = .ok (.fz .non) [some (.ins "World" (wF w')), none] := hro
        simp [-R.bind, hro, isD, optN]
      · have hro : Ir.World_read.fn [some (.ins "World" (wF w1)), some (.fz (.int n))] = .ok (.fz (.tup [.str [116, 104, 105, 110, 103], .int m])) [some (.ins "World" (wF w2)), none] := hro
        simp [-R.bind, hro, isD]
        exact ⟨m, w2, hc, rfl, rfl⟩
    · rintro e ⟨n, w1, s4, s5, hf, rfl⟩
      simp at hf
      unfold follow at hf
      cases hf
      simp [-R.bind, optN]
theorem looked_up_ok {w w' : Wd} {kn : Kn} {s : Src} {r : Option Vl} (hs : srcOk s = true) (h : lookedUp w kn s = some (r, w')) : Ir._looked_up.fn [some (wT w), some (.dic (knD kn)), some (.fz (srcD s))] = .ok (.fz (optV r)) [some (wT w'), some (.dic (knD kn)), none] := by
  simp only [Ir._looked_up, fn_def]
  cases s with
  | num n => cases h; simp [-R.bind, srcD, optV, vD]
  | null => cases h; simp [-R.bind, srcD, optV, vD]
  | adr x k =>
    have hk : k ≤ 1000 := by simp [srcOk] at hs; omega
    simp only [lookedUp] at h
    cases ht : thingAt w kn x k with
    | none => rw [ht] at h; cases h
    | some q =>
      obtain ⟨o, w1⟩ := q
      have hto := thing_at_ok hk ht
      rw [ht] at h
      generalize knD kn = kd at *
      cases o with
      | none => cases h; simp [-R.bind, srcD, optV, vD, hto, optN, isD]
      | some n => cases h; simp [-R.bind, srcD, optV, vD, hto, optN, isD]
  | val x k =>
    have hk : k ≤ 1000 := by simp [srcOk] at hs; omega
    simp only [lookedUp] at h
    cases ht : thingAt w kn x k with
    | none => rw [ht] at h; cases h
    | some q =>
      obtain ⟨o, w1⟩ := q
      have hto := thing_at_ok hk ht
      rw [ht] at h
      cases o with
      | none =>
        cases h
        generalize knD kn = kd at *
        simp [-R.bind, srcD, optV, vD, hto, optN, isD]
      | some n =>
        have h : (match w1.read n with
          | none => none
          | some (v, w2) => some (some v, w2)) = some (r, w') := h
        cases hr : w1.read n with
        | none => rw [hr] at h; cases h
        | some q =>
          obtain ⟨v, w2⟩ := q
          rw [hr] at h
          cases h
          have hro := read_ok hr
          generalize knD kn = kd at *
          simp [-R.bind, srcD, optV, hto, optN, isD, hro]
theorem isD_optV (r : Option Vl) : isD (optV r) .non = some r.isNone := by cases r <;> rfl
theorem all_looked_ok {kn : Kn} {ss : List Src} (hs : ∀ s ∈ ss, srcOk s = true) (hl : ss.length ≤ 1000) {w w' : Wd} {r : Option (List Vl)} (h : allLooked w kn ss = some (r, w')) : Ir._all_looked_up.fn [some (wT w), some (.dic (knD kn)), some (.fz (.lst (ss.map srcD)))] = .ok (.fz (optL r)) [some (wT w'), some (.dic (knD kn)), none] := by
  simp only [Ir._all_looked_up, fn_def]
  have hlo : ∀ s ∈ ss, ∀ w w1 r, lookedUp w kn s = some (r, w1) → _ := fun s hm w w1 r h => looked_up_ok (hs s hm) h
  generalize knD kn = kd at *
  simp [-R.bind, -List.map_map]
  refine forGo_rule (P := fun r' => endOf [true, true, false] r' = Out.ok (.fz (optL r)) [some (wT w'), some (.dic kd), none])
    (fun i e => ∃ vs w1 s4 s5, vs.length = i ∧ (match allLooked w1 kn (ss.drop i) with
      | none => none
      | some (none, w2) => some (none, w2)
      | some (some us, w2) => some (some (vs ++ us), w2)) = some (r, w') ∧ e = [some (wT w1), some (.dic kd), some (.fz (.lst (ss.map srcD))), some (.ml (vs.map vD)), s4, s5]) ⟨[], w, _, _, rfl, by
      rw [List.drop_zero, h]; cases r <;> rfl, rfl⟩ ?_ ?_
  · rintro i d e hd ⟨vs, w1, s4, s5, hvl, hf, rfl⟩
    rw [List.getElem?_map] at hd
    obtain ⟨s, hsi, rfl⟩ := Option.map_eq_some_iff.mp hd
    have hm := List.mem_of_getElem? hsi
    have hi := (List.getElem?_eq_some_iff.mp hsi).1
    rw [drop_of_get hsi] at hf
    simp only [allLooked] at hf
    refine ⟨_, rfl, ?_⟩
    cases ht : lookedUp w1 kn s with
    | none => rw [ht] at hf; cases hf
    | some q =>
      obtain ⟨o, w2⟩ := q
      have hlk := hlo s hm w1 w2 o ht
      rw [ht] at hf
      cases o with
      | none =>
        cases hf
        simp [-R.bind, -List.map_map, hlk, optV, isD, optL]
      | some v =>
        dsimp only at hf
        have hz : vs.length + 1 ≤ sizeMax := by unfold sizeMax; omega
        have he := ext_ml (vs.map vD) [vD v]
        rw [List.length_map, if_pos (show vs.length + [vD v].length ≤ sizeMax from hz)] at he
        simp [-R.bind, -List.map_map, -List.map_append, hlk, optV, isD, he]
        refine ⟨vs ++ [v], by simp; exact hvl, w2, ⟨?_, by simp⟩⟩
        cases ha : allLooked w2 kn (ss.drop (i + 1)) with
        | none => rw [ha] at hf; cases hf
        | some q =>
          obtain ⟨o, w3⟩ := q
          rw [ha] at hf
          cases o with
          | none => exact hf
          | some us => cases hf; simp
  · rintro e ⟨vs, w1, s4, s5, hvl, hf, rfl⟩
    rw [List.length_map, List.drop_length] at hf
    simp only [allLooked, List.append_nil] at hf
    cases hf
    simp [-R.bind, -List.map_map, optL]
theorem put_ok {w w' : Wd} {kn : Kn} {x : Nm} {k : Nat} {s : Src} {b : Bool} (hk : k ≤ 1000) (hs : srcOk s = true) (h : putW w kn x k s = some (b, w')) : Ir._put.fn [some (wT w), some (.dic (knD kn)), some (.fz (plD x k)), some (.fz (srcD s))] = .ok (.fz (.bl b)) [some (wT w'), some (.dic (knD kn)), none, none] := by
  simp only [Ir._put, fn_def]
  unfold putW at h
  cases ht : thingAt w kn x k with
  | none => rw [ht] at h; cases h
  | some q =>
    obtain ⟨o, w1⟩ := q
    have hto := thing_at_ok hk ht
    rw [ht] at h
    cases o with
    | none =>
      cases h
      generalize knD kn = kd at *
      simp [-R.bind, hto, optN, isD]
    | some n =>
      have h : (match lookedUp w1 kn s with
        | none => none
        | some (none, w2) => some (false, w2)
        | some (some v, w2) => (match w2.write n v with
          | none => none
          | some w3 => some (true, w3))) = some (b, w') := h
      cases hl : lookedUp w1 kn s with
      | none => rw [hl] at h; cases h
      | some q =>
        obtain ⟨r, w2⟩ := q
        have hlo := looked_up_ok hs hl
        rw [hl] at h
        cases r with
        | none =>
          cases h
          generalize knD kn = kd at *
          simp [-R.bind, hto, hlo, optN, optV, isD]
        | some v =>
          have h : (match w2.write n v with
            | none => none
            | some w3 => some (true, w3)) = some (b, w') := h
          cases hw : w2.write n v with
          | none => rw [hw] at h; cases h
          | some w3 =>
            rw [hw] at h
            cases h
            have hwo := write_ok hw
            generalize knD kn = kd at *
            simp [-R.bind, hto, hlo, optN, optV, isD, hwo]
end Pg
end

section
/-! worlds: acts -/
namespace Pg
open PySem Rx
def tooLong : Exn := ⟨"RightsError", [("reason", .str [116, 111, 111, 32, 108, 111, 110, 103])]⟩
def arO : Ar → Out
  | .bad => .bad
  | .ok b w kn => .ok (.fz (.bl b)) [some (wT w), none, some (.dic (knD kn)), none]
  | .long w kn => .exn tooLong [some (wT w), none, some (.dic (knD kn)), none]
/-- few sources -/
def fewS : St → Bool
  | .cl _ ss => decide (ss.length ≤ 1000)
  | _ => true
/-- self acts as act does -/
def Acts (fs : List Fc) (self : Fn) (act : Wd → Kn → St → Ar) : Prop := ∀ w kn s, stOk s = true → fewS s = true → act w kn s ≠ .bad → self [some (wT w), some (.fz (.lst (fs.map fcD))), some (.dic (knD kn)), some (.fz (stD s))] = arO (act w kn s)
theorem act_all_ok {fs : List Fc} {self : Fn} {act : Wd → Kn → St → Ar} (ha : Acts fs self act) {l : List St} (hl : ∀ s ∈ l, stOk s = true ∧ fewS s = true) {w : Wd} {kn : Kn} (h : actAllF act w kn l ≠ .bad) :
    (Ir.act_all self).fn [some (wT w), some (.fz (.lst (fs.map fcD))), some (.dic (knD kn)), some (.fz (.lst (l.map stD)))] = arO (actAllF act w kn l) := by
  simp only [Ir.act_all, fn_def]
  simp [-R.bind, -List.map_map]
  refine forGo_rule (P := fun r' => endOf [true, false, true, false] r' = arO (actAllF act w kn l))
    (fun i e => ∃ w1 kn1 s4, actAllF act w1 kn1 (l.drop i) = actAllF act w kn l ∧ e = [some (wT w1), some (.fz (.lst (fs.map fcD))), some (.dic (knD kn1)), some (.fz (.lst (l.map stD))), s4]) ⟨w, kn, _, by rw [List.drop_zero], rfl⟩ ?_ ?_
  · rintro i d e hd ⟨w1, kn1, s4, hf, rfl⟩
    rw [List.getElem?_map] at hd
    obtain ⟨s, hsi, rfl⟩ := Option.map_eq_some_iff.mp hd
    have hm := List.mem_of_getElem? hsi
    rw [drop_of_get hsi] at hf
    simp only [actAllF] at hf
    refine ⟨_, rfl, ?_⟩
    cases hr : act w1 kn1 s with
    | bad => rw [hr] at hf; exact absurd hf.symm h
    | long w2 kn2 =>
      have hq := ha w1 kn1 s (hl s hm).1 (hl s hm).2 (by rw [hr]; exact fun z => nomatch z)
      rw [hr] at hf hq
      simp only at hf
      rw [← hf]
      simp [-R.bind, -List.map_map, hq, arO, Lp, endOf]
    | ok b w2 kn2 =>
      have hq := ha w1 kn1 s (hl s hm).1 (hl s hm).2 (by rw [hr]; exact fun z => nomatch z)
      rw [hr] at hf hq
      cases b with
      | false =>
        simp only at hf
        rw [← hf]
        simp [-R.bind, -List.map_map, hq, arO]
      | true =>
        simp only at hf
        simp [-R.bind, -List.map_map, hq, arO]
        exact ⟨w2, kn2, hf, rfl, rfl⟩
  · rintro e ⟨w1, kn1, s4, hf, rfl⟩
    rw [List.length_map, List.drop_length] at hf
    simp only [actAllF] at hf
    rw [← hf]
    simp [-R.bind, -List.map_map, arO]
theorem sto_kn (kn : Kn) (x : Nm) (n : Nat) (h : kn.length < 1000) : stoO (.str x) (.fz (intD n)) (.dic (knD kn)) = some (.dic (knD (putN kn x n))) := by
  show (if isKey (.str x) = true ∧ (knD kn).length < sizeMax then some (OT.dic (putD (knD kn) (.str x) (intD n))) else none) = _
  rw [if_pos ⟨rfl, by rw [List.length_map]; unfold sizeMax; omega⟩, putD_kn]
theorem make_all_loop {w w3 : Wd} {inner : Kn} {g : Fc} {vs : List Vl} (h : makeAll w [] g.params vs = some (w3, inner)) (hp : g.params.length ≤ 1000) {a1 a2 a3 a4 s8 s9 s10 : Slot} {Q : SR → Prop} {k : Ev → SR}
    (hQ : ∀ s8 s9 s10, Q (k [some (wT w3), a1, a2, a3, a4, some (.fz (.lst (vs.map vD))), some (.fz (fcD g)), some (.dic (knD inner)), s8, s9, s10])) :
    Q ((forGo (.tp [.tp [.nm 9, .nm 10], .nm 8]) (run [.sto 7 [] (.var 9) (.meth "World" "make" [false, false, false] Ir.World_make.fn 0 [.var 9, .var 10, .var 8])]) (zipD (g.params.map parD) (vs.map vD)) [some (wT w), a1, a2, a3, a4, some (.fz (.lst (vs.map vD))), some (.fz (fcD g)), some (.dic []), s8, s9, s10]).sq k) := by
  refine forGo_rule (P := Q) (fun i e => ∃ w1 inner1 s8 s9 s10, makeAll w1 inner1 (g.params.drop i) (vs.drop i) = some (w3, inner) ∧ e = [some (wT w1), a1, a2, a3, a4, some (.fz (.lst (vs.map vD))), some (.fz (fcD g)), some (.dic (knD inner1)), s8, s9, s10])
    ⟨w, [], _, _, _, by rw [List.drop_zero, List.drop_zero]; exact h, rfl⟩ ?_ ?_
  · rintro i d e hd ⟨w1, inner1, s8, s9, s10, hf, rfl⟩
    obtain ⟨x, y, hx, hy, rfl⟩ := zipD_get _ _ _ _ hd
    rw [List.getElem?_map] at hx hy
    obtain ⟨p, hpi, rfl⟩ := Option.map_eq_some_iff.mp hx
    obtain ⟨v, hvi, rfl⟩ := Option.map_eq_some_iff.mp hy
    rw [drop_of_get hpi, drop_of_get hvi] at hf
    simp only [makeAll] at hf
    cases hm : w1.make p.1 p.2 v with
    | none => rw [hm] at hf; cases hf
    | some w2 =>
      rw [hm] at hf
      have hf : (if inner1.length < 1000 then makeAll w2 (putN inner1 p.1 w1.things.length) (g.params.drop (i + 1)) (vs.drop (i + 1)) else none) = some (w3, inner) := hf
      by_cases hz : inner1.length < 1000
      · rw [if_pos hz] at hf
        have hmk := make_ok hm
        have hst := sto_kn inner1 p.1 w1.things.length hz
        have hst : stoO (.str p.1) (.fz (.int w1.things.length)) (.dic (knD inner1)) = some (.dic (knD (putN inner1 p.1 w1.things.length))) := hst
        refine ⟨_, rfl, ?_⟩
        have goal : ∃ s8 s9 s10, run [.sto 7 [] (.var 9) (.meth "World" "make" [false, false, false] Ir.World_make.fn 0 [.var 9, .var 10, .var 8])] [some (wT w1), a1, a2, a3, a4, some (.fz (.lst (vs.map vD))), some (.fz (fcD g)), some (.dic (knD inner1)), some (.fz (vD v)), some (.fz (.str p.1)), some (.fz (tyD p.2))] = .nx [some (wT w2), a1, a2, a3, a4, some (.fz (.lst (vs.map vD))), some (.fz (fcD g)), some (.dic (knD (putN inner1 p.1 w1.things.length))), s8, s9, s10] := by
          generalize knD inner1 = ki at *
          generalize knD (putN inner1 p.1 w1.things.length) = ki2 at *
          refine ⟨some (.fz (vD v)), some (.fz (.str p.1)), some (.fz (tyD p.2)), ?_⟩
          simp [-R.bind, -List.map_map, -stoO, hmk, hst]
        obtain ⟨t8, t9, t10, hg⟩ := goal
        have : Lp Q k (fun e => ∃ w1 inner1 s8 s9 s10, makeAll w1 inner1 (g.params.drop (i + 1)) (vs.drop (i + 1)) = some (w3, inner) ∧ e = [some (wT w1), a1, a2, a3, a4, some (.fz (.lst (vs.map vD))), some (.fz (fcD g)), some (.dic (knD inner1)), s8, s9, s10]) (run [.sto 7 [] (.var 9) (.meth "World" "make" [false, false, false] Ir.World_make.fn 0 [.var 9, .var 10, .var 8])] [some (wT w1), a1, a2, a3, a4, some (.fz (.lst (vs.map vD))), some (.fz (fcD g)), some (.dic (knD inner1)), some (.fz (vD v)), some (.fz (.str p.1)), some (.fz (tyD p.2))]) := by
          rw [hg]
          exact ⟨w2, putN inner1 p.1 w1.things.length, t8, t9, t10, hf, rfl⟩
        exact this
      · rw [if_neg hz] at hf; cases hf
  · rintro e ⟨w1, inner1, s8, s9, s10, hf, rfl⟩
    rw [zipD_len, List.length_map, List.length_map] at hf
    have : makeAll w1 inner1 (g.params.drop (min g.params.length vs.length)) (vs.drop (min g.params.length vs.length)) = some (w1, inner1) := by
      by_cases hle : g.params.length ≤ vs.length
      · rw [Nat.min_eq_left hle, List.drop_length]; simp only [makeAll]
      · rw [Nat.min_eq_right (by omega), List.drop_length]
        cases g.params.drop vs.length <;> simp only [makeAll]
    rw [this] at hf
    cases hf
    exact hQ _ _ _
theorem optL_is (r : Option (List Vl)) : isD (optL r) .non = some r.isNone := by cases r <;> rfl
theorem call_ok {fs : List Fc} (hfs : ∀ f ∈ fs, fcOk f = true ∧ ∀ s ∈ f.body, fewS s = true) {self : Fn} {act : Wd → Kn → St → Ar} (ha : Acts fs self act) {w : Wd} {kn : Kn} {f : Nm} {ss : List Src} (hs : ∀ s ∈ ss, srcOk s = true) (hl : ss.length ≤ 1000) (h : callF act fs w kn f ss ≠ .bad) :
    (Ir._call (Ir.act_all self).fn).fn [some (wT w), some (.fz (.lst (fs.map fcD))), some (.dic (knD kn)), some (.fz (.str f)), some (.fz (.lst (ss.map srcD)))] = (match callF act fs w kn f ss with
    | .bad => .bad
    | .ok b w kn => .ok (.fz (.bl b)) [some (wT w), none, some (.dic (knD kn)), none, none]
    | .long w kn => .exn tooLong [some (wT w), none, some (.dic (knD kn)), none, none]) := by
  unfold callF at h ⊢
  cases hal : allLooked w kn ss with
  | none => rw [hal] at h; exact absurd rfl h
  | some q =>
    obtain ⟨r, w2⟩ := q
    have hlo := all_looked_ok hs hl hal
    rw [hal] at h
    simp only [Ir._call, fn_def]
    cases r with
    | none =>
      simp [-R.bind, -List.map_map, hlo, optL, isD]
    | some vs =>
      dsimp only at h
      cases hfd : fs.find? (fun g => g.name == f) with
      | none => rw [hfd] at h; exact absurd rfl h
      | some g =>
        have hgm := List.mem_of_find?_eq_some hfd
        obtain ⟨hp4, _, hb12, hbo⟩ := fcOk_parts (hfs g hgm).1
        have hfo := function_of_ok fs f g hfd
        rw [hfd] at h
        dsimp only at h
        cases hma : makeAll w2 [] g.params vs with
        | none => rw [hma] at h; exact absurd rfl h
        | some q =>
          obtain ⟨w3, inner⟩ := q
          rw [hma] at h
          dsimp only at h
          have haa : actAllF act w3 inner g.body ≠ .bad := fun z => by rw [z] at h; exact h rfl
          have hao := act_all_ok ha (fun s hs => ⟨hbo s hs, (hfs g hgm).2 s hs⟩) haa
          generalize hfl : D.lst (fs.map fcD) = fl at *
          simp [-R.bind, -List.map_map, hlo, optL, isD, hfo, att_params, hma]
          refine make_all_loop (Q := fun r' => endOf [true, false, true, false, false] r' = _) hma (by omega) fun s8 s9 s10 => ?_
          cases hr : actAllF act w3 inner g.body with
          | bad => exact absurd hr haa
          | long w4 kn4 =>
            rw [hr] at hao
            simp [-R.bind, -List.map_map, att_body, hao, arO, endOf]
          | ok b w4 kn4 =>
            rw [hr] at hao
            simp [-R.bind, -List.map_map, att_body, hao, arO]
set_option maxHeartbeats 2000000 in
theorem act_ok {fs : List Fc} (hfs : ∀ f ∈ fs, fcOk f = true ∧ ∀ s ∈ f.body, fewS s = true) : ∀ n : Nat, Acts fs (Ir.actN n) (actF fs n)
  | 0 => fun w kn s hs _ h => absurd rfl h
  | n + 1 => fun w kn s hs hfw h => by
    have ih := act_ok hfs n
    unfold Ir.actN
    simp only [actF] at h ⊢
    simp only [Ir.act, fn_def]
    by_cases hz : 1000 < w.tick.ex
    · rw [if_pos hz] at h ⊢
      have hz2 : (1000 : Int) < w.tick.ex := by omega
      simp [-R.bind, -List.map_map, Gv.MOST_EXECUTED, hz2, reOf, arO, endOf, tooLong]
    · rw [if_neg hz] at h ⊢
      have hz2 : ¬ (1000 : Int) < w.tick.ex := by omega
      cases s with
      | cl f ss =>
        have hss : (∀ s ∈ ss, srcOk s = true) := by
          simp [stOk] at hs; exact hs.2
        have hfw : ss.length ≤ 1000 := by simpa [fewS] using hfw
        dsimp only at h ⊢
        have hco := call_ok hfs ih hss hfw h
        generalize (Ir._call (Ir.act_all (Ir.actN n)).fn).fn = cf at *
        generalize hfl : D.lst (fs.map fcD) = fl at *
        cases hr : callF (actF fs n) fs w.tick kn f ss with
        | bad => exact absurd hr h
        | long w2 kn2 =>
          rw [hr] at hco
          simp [-R.bind, -List.map_map, Gv.MOST_EXECUTED, hz2, stD, hco, arO, endOf]
        | ok b w2 kn2 =>
          rw [hr] at hco
          simp [-R.bind, -List.map_map, Gv.MOST_EXECUTED, hz2, stD, hco, arO]
      | pt x k s =>
        have hk : k ≤ 1000 := by simp [stOk] at hs; omega
        have hs2 : srcOk s = true := by simp [stOk] at hs; exact hs.2
        dsimp only at h ⊢
        cases hp : putW w.tick kn x k s with
        | none => rw [hp] at h; exact absurd rfl h
        | some q =>
          obtain ⟨b, w2⟩ := q
          have hpo := put_ok hk hs2 hp
          generalize D.lst (fs.map fcD) = fl at *
          simp [-R.bind, -List.map_map, Gv.MOST_EXECUTED, hz2, stD, hpo, arO]
      | lt x t s =>
        have hs2 : srcOk s = true := by simp [stOk] at hs; exact hs.2
        dsimp only at h ⊢
        unfold letW at h ⊢
        cases hl : lookedUp w.tick kn s with
        | none => rw [hl] at h; exact absurd rfl h
        | some q =>
          obtain ⟨r, w2⟩ := q
          have hlo := looked_up_ok hs2 hl
          rw [hl] at h
          generalize D.lst (fs.map fcD) = fl at *
          cases r with
          | none => simp [-R.bind, -List.map_map, Gv.MOST_EXECUTED, hz2, stD, hlo, arO, optV, isD]
          | some v =>
            dsimp only at h ⊢
            cases hm : w2.make x t v with
            | none => rw [hm] at h; exact absurd rfl h
            | some w3 =>
              rw [hm] at h
              dsimp only at h ⊢
              by_cases hk : kn.length < 1000
              · rw [if_pos hk]
                have hmk := make_ok hm
                have hst : stoO (.str x) (.fz (.int w2.things.length)) (.dic (knD kn)) = some (.dic (knD (putN kn x w2.things.length))) := sto_kn kn x w2.things.length hk
                simp [-R.bind, -List.map_map, Gv.MOST_EXECUTED, hz2, stD, hlo, arO, optV, isD, hmk, hst]
              · rw [if_neg hk] at h; exact absurd rfl h
end Pg
end

section
/-! worlds: a program is run -/
namespace Pg
open PySem Rx
def thI (q : Th) : D := .ins "Thing" [("name", .str q.name), ("kind", tyD q.kind), ("value", vD q.val)]
def thD (q : Th) : D := .tup [.str q.name, tyD q.kind, vD q.val]
def wDf (w : Wd) : List (Str × D) := [("things", .lst (w.things.map thI)), ("breaches", .lst (w.br.map brD)), ("executed", .int w.ex)]
theorem views_thT (l : List Th) : OT.views (l.map thT) = l.map thI := by
  induction l with
  | nil => rfl
  | cons q l ih => show (thT q).view :: OT.views (l.map thT) = _; rw [ih]; rfl
@[simp] theorem viewf_w (w : Wd) : OT.viewf (wF w) = wDf w := by
  show [(("things" : Str), D.lst (OT.views (w.things.map thT))), (("breaches" : Str), D.lst (OT.views (w.br.map fun b => .fz (brD b)))), (("executed" : Str), D.int w.ex)] = _
  rw [views_thT, views_mapf]; rfl
@[simp] theorem lkd_things (w : Wd) : (wDf w).lookup ("things" : Str) = some (.lst (w.things.map thI)) := rfl
@[simp] theorem lkd_br (w : Wd) : (wDf w).lookup ("breaches" : Str) = some (.lst (w.br.map brD)) := by
  show List.lookup _ [(("things" : Str), _), (("breaches" : Str), _), (("executed" : Str), _)] = _
  rw [List.lookup_cons, show (("breaches" : Str) == "things") = false by decide, List.lookup_cons, beq_self_eq_true]
def w0 : Wd := ⟨[], [], 0⟩
theorem world_init : Ir.World___init__.fn [some (.ins "World" [])] = .ok (.fz .non) [some (wT w0)] := by
  have e1 : ¬ (("things" : Str) = "breaches") := by decide
  have e2 : ¬ (("things" : Str) = "executed") := by decide
  have e3 : ¬ (("breaches" : Str) = "executed") := by decide
  simp [-R.bind, Ir.World___init__, fn_def, putA, e1, e2, e3]
  rfl
theorem att_thI (q : Th) : attD (thI q) ["Thing"] "name" = some (.str q.name) ∧ attD (thI q) ["Thing"] "kind" = some (tyD q.kind) ∧ attD (thI q) ["Thing"] "value" = some (vD q.val) := by
  have e1 : (("kind" : Str) == "name") = false := by decide
  have e2 : (("value" : Str) == "name") = false := by decide
  have e3 : (("value" : Str) == "kind") = false := by decide
  refine ⟨rfl, ?_, ?_⟩
  · simp [thI, List.lookup_cons, e1]
  · simp [thI, List.lookup_cons, e2, e3]
theorem shown_ok (w : Wd) : Ir.shown_things.fn [some (.fz (.ins "World" (wDf w)))] = .ok (.fz (.lst (w.things.map thD))) [none] := by
  simp only [Ir.shown_things, fn_def]
  have key : ∀ e : Ev, ownOk e [1] = true → e.at 1 = none → lcRun [1] (.nm 1) (M.pure true) (sem (.tup [(.att (.var 1) ["Thing"] "name"), (.att (.var 1) ["Thing"] "kind"), (.att (.var 1) ["Thing"] "value")])).1 (w.things.map thI) [some (.fz (.ins "World" (wDf w))), none] = .ok (.ml (w.things.map thD)) [some (.fz (.ins "World" (wDf w))), none] := fun _ _ _ => by
    obtain ⟨acc, e', h1, h2⟩ := lc1_ok (j := 1) (mc := M.pure true) (me := (sem (.tup [(.att (.var 1) ["Thing"] "name"), (.att (.var 1) ["Thing"] "kind"), (.att (.var 1) ["Thing"] "value")])).1) (xs := w.things.map thI) (e := [some (.fz (.ins "World" (wDf w))), none])
      (fun i acc e => acc = (w.things.take i).map thD ∧ ∃ s, e = [some (.fz (.ins "World" (wDf w))), s]) rfl ⟨rfl, none, rfl⟩ (by
        rintro i d acc e hd ⟨rfl, s, rfl⟩
        rw [List.getElem?_map] at hd
        obtain ⟨q, hq, rfl⟩ := Option.map_eq_some_iff.mp hd
        obtain ⟨a1, a2, a3⟩ := att_thI q
        refine ⟨true, _, rfl, fun _ => ⟨.fz (thD q), [some (.fz (.ins "World" (wDf w))), some (.fz (thI q))], ?_, ?_, _, rfl⟩, fun h => nomatch h⟩
        · simp [-R.bind, a1, a2, a3, thD]
        · rw [List.take_add_one, hq]; simp)
    obtain ⟨h2, s, rfl⟩ := h2
    rw [h1, h2]
    simp
  have key := key [none, none] rfl rfl
  simp [-R.bind, -List.map_map] at key ⊢
  rw [key]
  simp [-R.bind, -List.map_map]
theorem callOk_few {fs : List Fc} (hfs : ∀ f ∈ fs, fcOk f = true) {s : St} (h : callOk fs s = true) : fewS s = true := by
  cases s with
  | lt => rfl
  | pt => rfl
  | cl f ss =>
    unfold callOk at h
    simp only at h
    cases hl : (fs.map fun g => (g.name, g.params.length)).lookup f with
    | none => rw [hl] at h; cases h
    | some n =>
      rw [hl] at h
      have h : (n == ss.length) = true := h
      have hn : n ≤ 4 := by
        have : ∀ (l : List Fc), (∀ f ∈ l, fcOk f = true) → (l.map fun g => (g.name, g.params.length)).lookup f = some n → n ≤ 4 := fun l => by
          induction l with
          | nil => intro _ h; cases h
          | cons g l ih =>
            intro hg h
            rw [List.map_cons, List.lookup_cons] at h
            cases e : f == g.name with
            | true => rw [e] at h; cases h; exact (fcOk_parts (hg g List.mem_cons_self)).1
            | false => rw [e] at h; exact ih (fun x hx => hg x (List.mem_cons_of_mem _ hx)) h
        exact this fs hfs hl
      have : n = ss.length := by simpa using h
      simp [fewS]; omega
theorem Ok.fews {p : Prg} (h : Ok p) : (∀ f ∈ p.funs, fcOk f = true ∧ ∀ s ∈ f.body, fewS s = true) ∧ ∀ s ∈ p.stmts, stOk s = true ∧ fewS s = true := by
  refine ⟨fun f hf => ⟨h.funs f hf, fun s hs => ?_⟩, fun s hs => ⟨h.stmts s hs, ?_⟩⟩
  · obtain ⟨i, hi⟩ := List.getElem?_of_mem hf
    have := calls_take (h.body i f hi)
    exact callOk_few h.funs (List.all_eq_true.mp this s hs)
  · exact callOk_few h.funs (List.all_eq_true.mp h.calls s hs)
abbrev runW (p : Prg) : Ar := actAllF (actF p.funs 10) w0 [] p.stmts
def endD (b : Bool) : D := if b then .str [100, 111, 110, 101] else .str [115, 116, 111, 112, 112, 101, 100]
def notLet : Exn := ⟨"RightsError", [("reason", .str [110, 111, 116, 32, 108, 101, 116, 32, 98, 121])]⟩
theorem run_ok (p : Prg) (h : Ok p) (ex : Ext) (hb : faultsF p ex = []) (hr : runW p ≠ .bad) : Ir.run.fn [some (.fz (prD p)), some (.fz (extD ex))] = (match runW p with
    | .bad => .bad
    | .ok b w _ => .ok (.fz (.tup [endD b, .lst (w.br.map brD), .lst (w.things.map thD)])) [none, none]
    | .long _ _ => .exn tooLong [none, none]) := by
  have hl := is_let_by_ok p h ex
  rw [hb] at hl
  have hact := act_ok h.fews.1 10
  have haa := act_all_ok hact h.fews.2 hr
  simp only [Ir.run, fn_def]
  have hw := world_init
  have hao : Ir.act_allN 10 [some (wT w0), some (.fz (.lst (p.funs.map fcD))), some (.dic []), some (.fz (.lst (p.stmts.map stD)))] = arO (runW p) := haa
  have a1 := att_functions p
  have a2 := att_statements p
  generalize extD ex = exd at *
  generalize prD p = pd at *
  generalize hfl : D.lst (p.funs.map fcD) = fl at *
  generalize hsl : D.lst (p.stmts.map stD) = sl at *
  cases hq : runW p with
  | bad => exact absurd hq hr
  | long w kn =>
    rw [hq] at hao
    simp [-R.bind, -List.map_map, hl, hw, hao, a1, a2, arO, endOf]
  | ok b w kn =>
    rw [hq] at hao
    have hso := shown_ok w
    cases b <;> simp [-R.bind, -List.map_map, hl, hw, hao, a1, a2, arO, hso, endD]
theorem run_not (p : Prg) (h : Ok p) (ex : Ext) (hb : faultsF p ex ≠ []) : Ir.run.fn [some (.fz (prD p)), some (.fz (extD ex))] = .exn notLet [none, none] := by
  have hl := is_let_by_ok p h ex
  rw [decide_eq_false hb] at hl
  simp only [Ir.run, fn_def]
  generalize extD ex = exd at *
  generalize prD p = pd at *
  simp [-R.bind, -List.map_map, hl, endOf, reOf, notLet]
end Pg
end

section
/-! worlds: what is let by goes on, and breaks no right where conversions hold -/
namespace Pg
open PySem Rx Lw
/-- what a conversion promises -/
structure CL (C : List Rt → List Rt → Prop) (ex : Ext) (safe : Prop) : Prop where
  refl : ∀ a, C a a
  trans : ∀ a b c, C a b → C b c → C a c
  len : ∀ a b, C a b → a.length = b.length
  r : ∀ x a y b, C (x :: a) (y :: b) → y.r = true → C a b
  w : ∀ x a y b, C (x :: a) (y :: b) → y.w = true → C b a
  cv : ∀ a u, convF a u ex = none → C a u
  sr : safe → ∀ x a y b, C (x :: a) (y :: b) → y.r = true → x.r = true
  sw : safe → ∀ x a y b, C (x :: a) (y :: b) → y.w = true → x.w = true
def VlOk (C : List Rt → List Rt → Prop) (w : Wd) (v : Vl) (u : List Rt) : Prop := match v with
  | .num _ => u = []
  | .null => u ≠ []
  | .th m => ∃ q, w.things[m]? = some q ∧ C q.kind u
structure WF (C : List Rt → List Rt → Prop) (w : Wd) : Prop where
  kind : ∀ (n : Nat) (q : Th), w.things[n]? = some q → q.kind ≠ []
  val : ∀ (n : Nat) (q : Th), w.things[n]? = some q → VlOk C w q.val q.kind.tail
def EnvOk (w : Wd) (tys : Tys) (kn : Kn) : Prop := ∀ x t, tys.lookup x = some t → ∃ n q, kn.lookup x = some n ∧ w.things[n]? = some q ∧ q.kind = t
/-- things stay, with their types -/
def Gr (w w' : Wd) : Prop := ∀ (n : Nat) (q : Th), w.things[n]? = some q → ∃ q', w'.things[n]? = some q' ∧ q'.kind = q.kind
theorem Gr.refl (w : Wd) : Gr w w := fun n q h => ⟨q, h, rfl⟩
theorem Gr.of_eq {w w' : Wd} (h : w'.things = w.things) : Gr w w' := fun n q hq => ⟨q, by rw [h]; exact hq, rfl⟩
theorem Gr.trans {a b c : Wd} (h : Gr a b) (k : Gr b c) : Gr a c := fun n q hq => by
  obtain ⟨q1, h1, e1⟩ := h n q hq
  obtain ⟨q2, h2, e2⟩ := k n q1 h1
  exact ⟨q2, h2, e2.trans e1⟩
section
variable {C : List Rt → List Rt → Prop} {ex : Ext} {safe : Prop}
theorem VlOk.gr {w w' : Wd} {v : Vl} {u : List Rt} (h : VlOk C w v u) (g : Gr w w') : VlOk C w' v u := by
  cases v with
  | num => exact h
  | null => exact h
  | th m =>
    obtain ⟨q, h1, h2⟩ := h
    obtain ⟨q', h3, h4⟩ := g m q h1
    exact ⟨q', h3, by rw [h4]; exact h2⟩
theorem VlOk.conv (cl : CL C ex safe) {w : Wd} {v : Vl} {u u' : List Rt} (h : VlOk C w v u) (c : C u u') : VlOk C w v u' := by
  have hl := cl.len _ _ c
  cases v with
  | num => subst h; exact List.eq_nil_of_length_eq_zero hl.symm
  | null => exact fun z => h (List.eq_nil_of_length_eq_zero (by rw [hl, z]; rfl))
  | th m =>
    obtain ⟨q, h1, h2⟩ := h
    exact ⟨q, h1, cl.trans _ _ _ h2 c⟩
theorem EnvOk.gr {w w' : Wd} {tys : Tys} {kn : Kn} (h : EnvOk w tys kn) (g : Gr w w') : EnvOk w' tys kn := fun x t hx => by
  obtain ⟨n, q, h1, h2, h3⟩ := h x t hx
  obtain ⟨q', h4, h5⟩ := g n q h2
  exact ⟨n, q', h1, h4, h5.trans h3⟩
/-- only breaches are added, few of them -/
structure Rd (safe : Prop) (w w' : Wd) (k : Nat) : Prop where
  things : w'.things = w.things
  ex : w'.ex = w.ex
  few : w'.br.length ≤ w.br.length + k
  safe : safe → w'.br = w.br
theorem Rd.refl (w : Wd) (k : Nat) : Rd safe w w k := ⟨rfl, rfl, Nat.le_add_right _ _, fun _ => rfl⟩
theorem Rd.trans {a b c : Wd} {k l : Nat} (h : Rd safe a b k) (g : Rd safe b c l) : Rd safe a c (k + l) :=
  ⟨g.things.trans h.things, g.ex.trans h.ex, by have := h.few; have := g.few; omega, fun s => (g.safe s).trans (h.safe s)⟩
theorem Rd.mono {a b : Wd} {k l : Nat} (h : Rd safe a b k) (hk : k ≤ l) : Rd safe a b l := ⟨h.things, h.ex, by have := h.few; omega, h.safe⟩
theorem Rd.wf {w w' : Wd} {k : Nat} (h : Rd safe w w' k) (f : WF C w) : WF C w' := ⟨fun n q hq => f.kind n q (by rw [← h.things]; exact hq), fun n q hq => (f.val n q (by rw [← h.things]; exact hq)).gr (Gr.of_eq h.things)⟩
/-- there is room -/
def Room (w : Wd) (k : Nat) : Prop := w.things.length + 10 < 1000000 ∧ w.br.length + k < 1000000
theorem Room.few {w : Wd} {k : Nat} (h : Room w k) : w.few = true := by
  unfold Wd.few; unfold Room at h; simp; omega
theorem Room.rd {w w' : Wd} {k l : Nat} (h : Room w (k + l)) (d : Rd safe w w' k) : Room w' l := by
  unfold Room at *; rw [d.things]; have := d.few; omega
theorem read_rd (cl : CL C ex safe) {w : Wd} (f : WF C w) {n : Nat} {q : Th} {y : Rt} {b : List Rt} (hq : w.things[n]? = some q) (hc : C q.kind (y :: b)) (hy : y.r = true) (hr : Room w 1) :
    ∃ v w', w.read n = some (v, w') ∧ Rd safe w w' 1 ∧ VlOk C w' v b := by
  cases hk : q.kind with
  | nil => exact absurd hk (f.kind n q hq)
  | cons x a =>
    rw [hk] at hc
    have hv := f.val n q hq
    rw [hk] at hv
    have d : Rd safe w (w.brk true n x.r) 1 := by
      refine ⟨by unfold Wd.brk; split <;> rfl, by unfold Wd.brk; split <;> rfl, by unfold Wd.brk; split <;> simp, fun s => ?_⟩
      unfold Wd.brk
      rw [cl.sr s x a y b hc hy]; rfl
    refine ⟨q.val, w.brk true n x.r, ?_, d, (hv.conv cl (cl.r x a y b hc hy)).gr (Gr.of_eq d.things)⟩
    unfold Wd.read
    rw [hq]
    simp only [hk, hr.few, if_true]
theorem follow_rd (cl : CL C ex safe) : ∀ (k : Nat) {w : Wd} {n : Nat} {q : Th} {t : List Rt}, WF C w → w.things[n]? = some q → C q.kind t → k < t.length → (t.take k).all (·.r) = true → Room w k →
    ∃ o w', follow w n k = some (o, w') ∧ Rd safe w w' k ∧ ∀ m, o = some m → ∃ q', w'.things[m]? = some q' ∧ C q'.kind (t.drop k)
  | 0, w, n, q, t, f, hq, hc, _, _, _ => ⟨some n, w, rfl, Rd.refl w 0, fun m e => by cases e; exact ⟨q, hq, hc⟩⟩
  | k + 1, w, n, q, t, f, hq, hc, hl, ha, hr => by
    cases t with
    | nil => simp at hl
    | cons y b =>
      simp only [List.take_succ_cons, List.all_cons, Bool.and_eq_true] at ha
      obtain ⟨v, w1, h1, d1, hv⟩ := read_rd cl f hq hc ha.1 (by unfold Room at *; omega)
      simp only [follow, h1]
      cases v with
      | num m =>
        have : b = [] := hv
        subst this; simp at hl
      | null => exact ⟨none, w1, rfl, d1.mono (by omega), fun m e => nomatch e⟩
      | th m =>
        obtain ⟨q1, hq1, hc1⟩ := hv
        obtain ⟨o, w2, h2, d2, h3⟩ := follow_rd cl k (d1.wf f) hq1 hc1 (by simpa using hl) ha.2 (Room.rd (k := 1) (by rw [Nat.add_comm]; exact hr) d1)
        exact ⟨o, w2, h2, (d1.trans d2).mono (by omega), h3⟩
theorem place_rd (cl : CL C ex safe) {w : Wd} {tys : Tys} {kn : Kn} {x : Nm} {k : Nat} (f : WF C w) (e : EnvOk w tys kn) (h : placeF tys x k = none) (hr : Room w k) :
    ∃ o w', thingAt w kn x k = some (o, w') ∧ Rd safe w w' k ∧ seenT tys x k ≠ [] ∧ ∀ m, o = some m → ∃ q', w'.things[m]? = some q' ∧ C q'.kind (seenT tys x k) := by
  unfold placeF at h
  cases hx : tys.lookup x with
  | none => rw [hx] at h; cases h
  | some t =>
    rw [hx] at h
    have h : (if t.length ≤ k then some Rs.tm else if (t.take k).all (·.r) = true then none else some .mr) = none := h
    by_cases hk : t.length ≤ k
    · rw [if_pos hk] at h; cases h
    · rw [if_neg hk] at h
      by_cases ha : (t.take k).all (·.r) = true
      · obtain ⟨n, q, h1, h2, h3⟩ := e x t hx
        have hs : seenT tys x k = t.drop k := by unfold seenT; rw [hx]; rfl
        obtain ⟨o, w', a1, a2, a3⟩ := follow_rd cl k f h2 (by rw [h3]; exact cl.refl t) (by omega) ha hr
        refine ⟨o, w', by unfold thingAt; rw [h1]; exact a1, a2, ?_, by rw [hs]; exact a3⟩
        rw [hs]
        intro z
        have := congrArg List.length z
        simp at this; omega
      · rw [if_neg ha] at h; cases h
theorem looked_rd (cl : CL C ex safe) {w : Wd} {tys : Tys} {kn : Kn} {s : Src} {u : List Rt} (f : WF C w) (e : EnvOk w tys kn) (hs : srcOk s = true) (h : srcF tys s u ex = none) (hr : Room w 6) :
    ∃ o w', lookedUp w kn s = some (o, w') ∧ Rd safe w w' 6 ∧ ∀ v, o = some v → VlOk C w' v u := by
  cases s with
  | num n =>
    refine ⟨_, w, rfl, Rd.refl w 6, fun v e => ?_⟩
    cases e
    have h : (if u = [] then none else some Rs.od) = none := h
    by_cases hu : u = []
    · exact hu
    · rw [if_neg hu] at h; cases h
  | null =>
    refine ⟨_, w, rfl, Rd.refl w 6, fun v e => ?_⟩
    cases e
    have h : (if u = [] then some Rs.od else none) = none := h
    by_cases hu : u = []
    · rw [if_pos hu] at h; cases h
    · exact hu
  | adr x k =>
    have hk : k ≤ 5 := by simp [srcOk] at hs; omega
    have h : (match placeF tys x k with
      | some r => some r
      | none => convF (seenT tys x k) u ex) = none := h
    cases hp : placeF tys x k with
    | some r => rw [hp] at h; cases h
    | none =>
      rw [hp] at h
      obtain ⟨o, w', a1, a2, a3, a4⟩ := place_rd cl f e hp (by unfold Room at *; omega)
      cases o with
      | none => exact ⟨none, w', by simp only [lookedUp, a1], a2.mono (by omega), fun v e => nomatch e⟩
      | some n =>
        refine ⟨some (.th n), w', by simp only [lookedUp, a1], a2.mono (by omega), fun v e => ?_⟩
        cases e
        obtain ⟨q', b1, b2⟩ := a4 n rfl
        exact ⟨q', b1, cl.trans _ _ _ b2 (cl.cv _ _ h)⟩
  | val x k =>
    have hk : k ≤ 5 := by simp [srcOk] at hs; omega
    have h : (match placeF tys x k with
      | some r => some r
      | none => if headR (seenT tys x k) = true then convF (seenT tys x k).tail u ex else some .mr) = none := h
    cases hp : placeF tys x k with
    | some r => rw [hp] at h; cases h
    | none =>
      rw [hp] at h
      obtain ⟨o, w', a1, a2, a3, a4⟩ := place_rd cl f e hp (by unfold Room at *; omega)
      cases hsn : seenT tys x k with
      | nil => exact absurd hsn a3
      | cons y b =>
        rw [hsn] at h a4
        have h : (if y.r = true then convF b u ex else some .mr) = none := h
        by_cases hy : y.r = true
        · rw [if_pos hy] at h
          cases o with
          | none => exact ⟨none, w', by simp only [lookedUp, a1], a2.mono (by omega), fun v e => nomatch e⟩
          | some n =>
            obtain ⟨q', b1, b2⟩ := a4 n rfl
            have hr2 : Room w' 1 := by have h1 := a2.things; have h2 := a2.few; unfold Room at *; rw [h1]; omega
            obtain ⟨v, w2, c1, c2, c3⟩ := read_rd cl (a2.wf f) b1 b2 hy hr2
            refine ⟨some v, w2, by simp only [lookedUp, a1, c1], (a2.trans c2).mono (by omega), fun v' e => ?_⟩
            cases e
            exact c3.conv cl (cl.cv _ _ h)
        · rw [if_neg hy] at h; cases h
theorem firstF_none : ∀ {l : List (Option Rs)}, firstF l = none → ∀ o ∈ l, o = none
  | [], _, o, h => nomatch h
  | some r :: l, h, _, _ => nomatch h
  | none :: l, h, o, ho => by
    rcases List.mem_cons.mp ho with rfl | ho
    · rfl
    · exact firstF_none (l := l) h o ho
theorem all_rd (cl : CL C ex safe) {tys : Tys} {kn : Kn} : ∀ {ss : List Src} {ps : List (Nm × List Rt)} {w : Wd}, WF C w → EnvOk w tys kn → (∀ s ∈ ss, srcOk s = true) → ps.length = ss.length → (∀ o ∈ (ps.zip ss).map fun q => srcF tys q.2 q.1.2.tail ex, o = none) → Room w (6 * ss.length) →
    ∃ o w', allLooked w kn ss = some (o, w') ∧ Rd safe w w' (6 * ss.length) ∧ ∀ vs, o = some vs → vs.length = ss.length ∧ ∀ (i : Nat) (p : Nm × List Rt) (v : Vl), ps[i]? = some p → vs[i]? = some v → VlOk C w' v p.2.tail
  | [], ps, w, f, e, _, hl, _, _ => ⟨some [], w, rfl, Rd.refl w _, fun vs z => by cases z; exact ⟨rfl, fun i p v _ h => by simp at h⟩⟩
  | s :: ss, [], w, f, e, _, hl, _, _ => by simp at hl
  | s :: ss, p :: ps, w, f, e, hs, hl, hf, hr => by
    have hf0 := hf (srcF tys s p.2.tail ex) (by simp)
    obtain ⟨o, w1, a1, a2, a3⟩ := looked_rd cl f e (hs s List.mem_cons_self) hf0 (by unfold Room at *; simp at hr; omega)
    cases o with
    | none => exact ⟨none, w1, by simp only [allLooked, a1], a2.mono (by simp; omega), fun vs z => nomatch z⟩
    | some v =>
      have hr1 : Room w1 (6 * ss.length) := by
        have h1 := a2.things; have h2 := a2.few
        unfold Room at *; rw [h1]; simp at hr; omega
      obtain ⟨o, w2, b1, b2, b3⟩ := all_rd cl (ss := ss) (ps := ps) (a2.wf f) (e.gr (Gr.of_eq a2.things)) (fun x hx => hs x (List.mem_cons_of_mem _ hx)) (by simpa using hl) (fun o ho => hf o (by simp at ho ⊢; exact .inr ho)) hr1
      have d : Rd safe w w2 (6 * (s :: ss).length) := (a2.trans b2).mono (by simp; omega)
      cases o with
      | none => exact ⟨none, w2, by simp only [allLooked, a1, b1], d, fun vs z => nomatch z⟩
      | some vs =>
        obtain ⟨c1, c2⟩ := b3 vs rfl
        refine ⟨some (v :: vs), w2, by simp only [allLooked, a1, b1], d, fun us z => ?_⟩
        cases z
        refine ⟨by simp [c1], fun i p' v' h1 h2 => ?_⟩
        cases i with
        | zero =>
          simp at h1 h2
          subst h1 h2
          exact (a3 v rfl).gr (Gr.of_eq b2.things)
        | succ i => exact c2 i p' v' (by simpa using h1) (by simpa using h2)
end
end Pg
end

section
/-! worlds: a program that is let by is run to an end -/
namespace Pg
open PySem Rx Lw
theorem put_lookup {β : Type} (l : List (Nm × β)) (x : Nm) (v : β) (y : Nm) : (if (l.any fun p => p.1 == x) then l.map fun p => if p.1 == x then (x, v) else p else l ++ [(x, v)]).lookup y = if y = x then some v else l.lookup y := by
  by_cases ha : (l.any fun p => p.1 == x) = true
  · rw [if_pos ha]
    by_cases hy : y = x
    · subst hy
      rw [if_pos rfl]
      induction l with
      | nil => simp at ha
      | cons p l ih =>
        rw [List.map_cons]
        by_cases hp : (p.1 == y) = true
        · rw [if_pos hp, List.lookup_cons, beq_self_eq_true]
        · rw [if_neg hp, List.lookup_cons]
          have hp2 : (y == p.1) = false := by
            have : ¬ p.1 = y := by simpa using hp
            simpa using fun e : y = p.1 => this e.symm
          rw [hp2]
          refine ih ?_
          rw [List.any_cons] at ha
          simpa [hp] using ha
    · rw [if_neg hy]
      clear ha
      induction l with
      | nil => rfl
      | cons p l ih =>
        rw [List.map_cons, List.lookup_cons]
        by_cases hp : (p.1 == x) = true
        · have e : p.1 = x := by simpa using hp
          rw [if_pos hp, List.lookup_cons, ih]
          have h1 : (y == x) = false := by simpa using hy
          have h2 : (y == p.1) = false := by rw [e]; exact h1
          simp only [h1, h2]
        · rw [if_neg hp, List.lookup_cons, ih]
  · rw [if_neg ha, List.lookup_append]
    by_cases hy : y = x
    · subst hy
      rw [if_pos rfl]
      have : l.lookup y = none := by
        rw [List.lookup_eq_none_iff]
        intro p hp
        simp only [List.any_eq_true, not_exists, not_and] at ha
        have := ha p hp
        have h3 : ¬ p.1 = y := by simpa using this
        simpa using fun e : y = p.1 => h3 e.symm
      rw [this, List.lookup_cons, beq_self_eq_true]; rfl
    · rw [if_neg hy, List.lookup_cons]
      have h1 : (y == x) = false := by simpa using hy
      rw [h1]
      cases l.lookup y <;> rfl
theorem putN_lookup (kn : Kn) (x : Nm) (n : Nat) (y : Nm) : (putN kn x n).lookup y = if y = x then some n else kn.lookup y := put_lookup kn x n y
theorem putT_lookup (tys : Tys) (x : Nm) (t : List Rt) (y : Nm) : (putT tys x t).lookup y = if y = x then some t else tys.lookup y := put_lookup tys x t y
theorem putN_len (kn : Kn) (x : Nm) (n : Nat) : (putN kn x n).length ≤ kn.length + 1 := by
  unfold putN; split <;> simp
section
variable {C : List Rt → List Rt → Prop} {ex : Ext} {safe : Prop}
theorem WF.make {w : Wd} (f : WF C w) {x : Nm} {t : List Rt} {v : Vl} (ht : t ≠ []) (hv : VlOk C w v t.tail) : WF C { w with things := w.things ++ [⟨x, t, v⟩] } ∧ Gr w { w with things := w.things ++ [⟨x, t, v⟩] } := by
  have g : Gr w { w with things := w.things ++ [⟨x, t, v⟩] } := fun n q hq => ⟨q, by
    show (w.things ++ [_])[n]? = some q
    rw [List.getElem?_append_left (List.getElem?_eq_some_iff.mp hq).1]; exact hq, rfl⟩
  have key : ∀ (n : Nat) (q : Th), (w.things ++ [⟨x, t, v⟩])[n]? = some q → w.things[n]? = some q ∨ q = ⟨x, t, v⟩ := fun n q hq => by
    by_cases h : n < w.things.length
    · rw [List.getElem?_append_left h] at hq; exact .inl hq
    · rw [List.getElem?_append_right (by omega)] at hq
      have : [(⟨x, t, v⟩ : Th)][n - w.things.length]? = some q := hq
      have hm := List.mem_of_getElem? this
      exact .inr (by simpa using hm)
  refine ⟨⟨fun n q hq => ?_, fun n q hq => ?_⟩, g⟩
  · rcases key n q hq with h | rfl
    · exact f.kind n q h
    · exact ht
  · rcases key n q hq with h | rfl
    · exact (f.val n q h).gr g
    · exact hv.gr g
theorem WF.set {w : Wd} (f : WF C w) {n : Nat} {q : Th} {v : Vl} {br : List (Bool × Nat)} (hq : w.things[n]? = some q) (hv : VlOk C w v q.kind.tail) : WF C { w with br := br, things := w.things.set n { q with val := v } } ∧ Gr w { w with br := br, things := w.things.set n { q with val := v } } := by
  have hn := (List.getElem?_eq_some_iff.mp hq).1
  have g : Gr w { w with br := br, things := w.things.set n { q with val := v } } := fun m q' hm => by
    show ∃ q2, (w.things.set n _)[m]? = some q2 ∧ _
    by_cases e : n = m
    · subst e
      rw [hm] at hq; cases hq
      exact ⟨⟨q.name, q.kind, v⟩, by rw [List.getElem?_set_self hn], rfl⟩
    · exact ⟨q', by rw [List.getElem?_set_ne e]; exact hm, rfl⟩
  have key : ∀ (m : Nat) (q' : Th), (w.things.set n { q with val := v })[m]? = some q' → w.things[m]? = some q' ∨ q' = { q with val := v } := fun m q' hm => by
    by_cases e : n = m
    · subst e
      rw [List.getElem?_set_self hn] at hm
      cases hm; exact .inr rfl
    · rw [List.getElem?_set_ne e] at hm; exact .inl hm
  refine ⟨⟨fun m q' hm => ?_, fun m q' hm => ?_⟩, g⟩
  · rcases key m q' hm with h | rfl
    · exact f.kind m q' h
    · exact f.kind n q hq
  · rcases key m q' hm with h | rfl
    · exact (f.val m q' h).gr g
    · exact hv.gr g
/-- sizes -/
structure Sz (w : Wd) : Prop where
  br : w.br.length ≤ 100 * w.ex
  things : w.things.length ≤ 10 * w.ex
  ex : w.ex ≤ 1000
def Good (C : List Rt → List Rt → Prop) (safe : Prop) (w : Wd) (r : Ar) (P : Bool → Wd → Kn → Prop) : Prop := match r with
  | .bad => False
  | .long _ _ => True
  | .ok b w' kn' => WF C w' ∧ Gr w w' ∧ Sz w' ∧ (safe → w'.br = w.br) ∧ P b w' kn'
/-- what is asked of the functions -/
structure FsOk (fs : List Fc) (ex : Ext) : Prop where
  flt : ∀ (j : Nat) (g : Fc), fs[j]? = some g → blockF fs ex 0 g.params g.body = []
  calls : ∀ (j : Nat) (g : Fc), fs[j]? = some g → callsOk (fs.take j) g.body = true
  ok : ∀ (j : Nat) (g : Fc), fs[j]? = some g → fcOk g = true
  nod : ∀ (j : Nat) (g : Fc), fs[j]? = some g → (g.params.map (·.1)).Nodup
theorem make_all_good : ∀ (ps : List (Nm × List Rt)) (vs : List Vl) (w : Wd) (inner : Kn) (dn : Tys), WF C w → vs.length = ps.length → (∀ (i : Nat) (p : Nm × List Rt) (v : Vl), ps[i]? = some p → vs[i]? = some v → VlOk C w v p.2.tail) → (∀ p ∈ ps, p.2 ≠ []) →
    EnvOk w dn inner → ((dn ++ ps).map (·.1)).Nodup → w.things.length + ps.length + 10 < 1000000 → w.br.length < 1000000 → inner.length + ps.length < 1000 →
    ∃ w3 inner3, makeAll w inner ps vs = some (w3, inner3) ∧ WF C w3 ∧ Gr w w3 ∧ w3.ex = w.ex ∧ w3.things.length = w.things.length + ps.length ∧ w3.br = w.br ∧ EnvOk w3 (dn ++ ps) inner3 ∧ inner3.length ≤ inner.length + ps.length
  | [], vs, w, inner, dn, f, _, _, _, e, _, _, _, _ => ⟨w, inner, by simp only [makeAll], f, Gr.refl w, rfl, rfl, rfl, by rw [List.append_nil]; exact e, Nat.le_refl _⟩
  | p :: ps, [], w, inner, dn, f, hl, _, _, _, _, _, _, _ => by simp at hl
  | p :: ps, v :: vs, w, inner, dn, f, hl, hv, hp, e, hnd, hz1, hz2, hz3 => by
    have hfew : w.few = true := by unfold Wd.few; simp at hz1 ⊢; omega
    have hm : w.make p.1 p.2 v = some { w with things := w.things ++ [⟨p.1, p.2, v⟩] } := by unfold Wd.make; rw [if_pos hfew]
    obtain ⟨f2, g2⟩ := f.make (x := p.1) (hp p List.mem_cons_self) (hv 0 p v rfl rfl)
    have hnp : ∀ t, dn.lookup p.1 = some t → False := fun t ht => by
      rw [List.map_append, List.map_cons] at hnd
      have h3 := (List.nodup_append.mp hnd).2.2
      have hmem : p.1 ∈ dn.map (·.1) := by
        clear e hnd h3
        induction dn with
        | nil => cases ht
        | cons d dn ih =>
          rw [List.lookup_cons] at ht
          cases hd : p.1 == d.1 with
          | true => have := (by simpa using hd : p.1 = d.1); rw [List.map_cons, this]; exact List.mem_cons_self
          | false => rw [hd] at ht; exact List.mem_cons_of_mem _ (ih ht)
      exact h3 _ hmem _ List.mem_cons_self rfl
    have e2 : EnvOk { w with things := w.things ++ [⟨p.1, p.2, v⟩] } (dn ++ [p]) (putN inner p.1 w.things.length) := fun x t hx => by
      rw [List.lookup_append] at hx
      rw [putN_lookup]
      cases hd : dn.lookup x with
      | some t' =>
        rw [hd] at hx
        cases hx
        have hne : ¬ x = p.1 := fun z => hnp _ (by rw [← z]; exact hd)
        rw [if_neg hne]
        exact (e.gr g2) x t hd
      | none =>
        rw [hd] at hx
        have hx : [p].lookup x = some t := hx
        rw [List.lookup_cons] at hx
        cases hb : x == p.1 with
        | false => rw [hb] at hx; cases hx
        | true =>
          rw [hb] at hx
          cases hx
          have : x = p.1 := by simpa using hb
          rw [if_pos this]
          refine ⟨w.things.length, ⟨p.1, p.2, v⟩, rfl, ?_, rfl⟩
          · show (w.things ++ [_])[w.things.length]? = _
            rw [List.getElem?_append_right (Nat.le_refl _)]; simp
    obtain ⟨w3, inner3, a1, a2, a3, a4, a5, a6, a7, a8⟩ := make_all_good ps vs _ (putN inner p.1 w.things.length) (dn ++ [p]) f2 (by simpa using hl) (fun i p' v' h1 h2 => (hv (i + 1) p' v' (by simpa using h1) (by simpa using h2)).gr g2) (fun q hq => hp q (List.mem_cons_of_mem _ hq)) e2 (by simpa using hnd)
      (by simp at hz1 ⊢; omega) hz2 (by have := putN_len inner p.1 w.things.length; simp at hz3; omega)
    refine ⟨w3, inner3, ?_, a2, g2.trans a3, a4, by rw [a5]; simp; omega, a6, by simpa using a7, ?_⟩
    · simp only [makeAll, hm]
      rw [if_pos (by simp at hz3; omega)]; exact a1
    · have := putN_len inner p.1 w.things.length
      simp; omega
theorem find_index : ∀ (fs : List Fc) (i : Nat) (f : Nm) (n : Nat), ((fs.take i).map fun g => (g.name, g.params.length)).lookup f = some n → ∃ j g, j < i ∧ fs[j]? = some g ∧ fs.find? (fun g => g.name == f) = some g ∧ n = g.params.length
  | [], i, f, n, h => by simp at h
  | g :: fs, 0, f, n, h => by simp at h
  | g :: fs, i + 1, f, n, h => by
    rw [List.take_succ_cons, List.map_cons, List.lookup_cons] at h
    rw [List.find?_cons]
    cases hb : f == g.name with
    | true =>
      rw [hb] at h
      cases h
      have : (g.name == f) = true := by have := (by simpa using hb : f = g.name); simp [this]
      exact ⟨0, g, by omega, rfl, by rw [this], rfl⟩
    | false =>
      rw [hb] at h
      have : (g.name == f) = false := by
        have h2 : ¬ f = g.name := by simpa using hb
        simpa using fun e : g.name = f => h2 e.symm
      obtain ⟨j, g', h1, h2, h3, h4⟩ := find_index fs i f n h
      exact ⟨j + 1, g', by omega, by simpa using h2, by rw [this]; exact h3, h4⟩
theorem block_cons {fs : List Fc} {ex : Ext} {m : Nat} {tys : Tys} {s : St} {l : List St} (h : blockF fs ex m tys (s :: l) = []) : stF fs tys s ex = none ∧ blockF fs ex (m + 1) (stepT tys s) l = [] := by
  unfold blockF at h
  obtain ⟨h1, h2⟩ := List.append_eq_nil_iff.mp h
  refine ⟨?_, h2⟩
  cases hs : stF fs tys s ex with
  | none => rfl
  | some r => rw [hs] at h1; cases h1
/-- acts go well -/
def ActGood (C : List Rt → List Rt → Prop) (ex : Ext) (safe : Prop) (fs : List Fc) (i : Nat) (act : Wd → Kn → St → Ar) : Prop := ∀ (w : Wd) (kn : Kn) (tys : Tys) (s : St), WF C w → EnvOk w tys kn → Sz w → stOk s = true → callOk (fs.take i) s = true → stF fs tys s ex = none → kn.length ≤ 900 →
  Good C safe w (act w kn s) fun b w' kn' => (b = true → EnvOk w' (stepT tys s) kn') ∧ kn'.length ≤ kn.length + 1
theorem all_good {fs : List Fc} {i : Nat} {act : Wd → Kn → St → Ar} (ha : ActGood C ex safe fs i act) : ∀ (l : List St) (m : Nat) (w : Wd) (kn : Kn) (tys : Tys), WF C w → EnvOk w tys kn → Sz w → (∀ s ∈ l, stOk s = true) → callsOk (fs.take i) l = true → blockF fs ex m tys l = [] → kn.length + l.length ≤ 900 →
    Good C safe w (actAllF act w kn l) fun _ _ _ => True
  | [], m, w, kn, tys, f, e, z, _, _, _, _ => ⟨f, Gr.refl w, z, fun _ => rfl, trivial⟩
  | s :: l, m, w, kn, tys, f, e, z, ho, hc, hb, hk => by
    obtain ⟨b1, b2⟩ := block_cons hb
    have hc1 : callOk (fs.take i) s = true := List.all_eq_true.mp hc s List.mem_cons_self
    have hc2 : callsOk (fs.take i) l = true := List.all_eq_true.mpr fun x hx => List.all_eq_true.mp hc x (List.mem_cons_of_mem _ hx)
    have hq := ha w kn tys s f e z (ho s List.mem_cons_self) hc1 b1 (by simp at hk; omega)
    cases hr : act w kn s with
    | bad => rw [hr] at hq; exact hq.elim
    | long w' kn' => simp only [actAllF, hr]; trivial
    | ok b w1 kn1 =>
      rw [hr] at hq
      obtain ⟨q1, q2, q3, q4, q5, q6⟩ := hq
      cases b with
      | false => simp only [actAllF, hr]; exact ⟨q1, q2, q3, q4, trivial⟩
      | true =>
        have := all_good ha l (m + 1) w1 kn1 (stepT tys s) q1 (q5 rfl) q3 (fun x hx => ho x (List.mem_cons_of_mem _ hx)) hc2 b2 (by simp at hk; omega)
        simp only [actAllF, hr]
        cases hr2 : actAllF act w1 kn1 l with
        | bad => rw [hr2] at this; exact this
        | long _ _ => trivial
        | ok b2 w2 kn2 =>
          rw [hr2] at this
          obtain ⟨p1, p2, p3, p4, p5⟩ := this
          exact ⟨p1, q2.trans p2, p3, fun s => (p4 s).trans (q4 s), trivial⟩
end
end Pg
end

section
/-! worlds: acts go well -/
namespace Pg
open PySem Rx Lw
section
variable {C : List Rt → List Rt → Prop} {ex : Ext} {safe : Prop}
theorem WF.same {w w' : Wd} (h : w'.things = w.things) (f : WF C w) : WF C w' := ⟨fun n q hq => f.kind n q (by rw [← h]; exact hq), fun n q hq => (f.val n q (by rw [← h]; exact hq)).gr (Gr.of_eq h)⟩
theorem write_good (cl : CL C ex safe) {w : Wd} (f : WF C w) {n : Nat} {q : Th} {y : Rt} {b : List Rt} {v : Vl} (hq : w.things[n]? = some q) (hc : C q.kind (y :: b)) (hy : y.w = true) (hv : VlOk C w v b) (hr : Room w 1) :
    ∃ w', w.write n v = some w' ∧ WF C w' ∧ Gr w w' ∧ w'.ex = w.ex ∧ w'.things.length = w.things.length ∧ w'.br.length ≤ w.br.length + 1 ∧ (safe → w'.br = w.br) := by
  cases hk : q.kind with
  | nil => exact absurd hk (f.kind n q hq)
  | cons x a =>
    rw [hk] at hc
    have hv2 : VlOk C w v q.kind.tail := by rw [hk]; exact hv.conv cl (cl.w x a y b hc hy)
    obtain ⟨f2, g2⟩ := f.set (br := (w.brk false n x.w).br) hq hv2
    refine ⟨{ w with br := (w.brk false n x.w).br, things := w.things.set n { q with val := v } }, ?_, f2, g2, rfl, by simp, ?_, fun s => ?_⟩
    · unfold Wd.write
      rw [hq]
      simp only [hk, hr.few, if_true]
      unfold Wd.brk
      split <;> rfl
    · show (w.brk false n x.w).br.length ≤ _
      unfold Wd.brk; split <;> simp
    · show (w.brk false n x.w).br = _
      unfold Wd.brk
      rw [cl.sw s x a y b hc hy]; rfl
theorem act_good (cl : CL C ex safe) {fs : List Fc} (hfs : FsOk fs ex) : ∀ (n i : Nat), i + 1 ≤ n → ActGood C ex safe fs i (actF fs n)
  | 0, i, h => absurd h (by omega)
  | n + 1, i, hn => fun w kn tys s f e z ho hc hs hk => by
    simp only [actF]
    by_cases hz : 1000 < w.tick.ex
    · rw [if_pos hz]; trivial
    · rw [if_neg hz]
      have zb := z.br; have zt := z.things; have zx := z.ex
      have hex : w.ex + 1 ≤ 1000 := by have : w.tick.ex = w.ex + 1 := rfl; omega
      have tx : w.tick.ex = w.ex + 1 := rfl
      have tt : w.tick.things = w.things := rfl
      have tb : w.tick.br = w.br := rfl
      have f1 : WF C w.tick := WF.same (w := w) rfl f
      have g1 : Gr w w.tick := Gr.of_eq rfl
      have e1 : EnvOk w.tick tys kn := e.gr g1
      have room : ∀ k, k ≤ 500 → Room w.tick k := fun k hk => by unfold Room; rw [tt, tb]; omega
      cases s with
      | lt x t s =>
        simp only [stOk, Bool.and_eq_true] at ho
        have hs : srcF tys s t.tail ex = none := hs
        have ht : t ≠ [] := fun h => by have := ho.1.2; rw [h] at this; simp [typeOk] at this
        obtain ⟨o, w2, a1, a2, a3⟩ := looked_rd cl f1 e1 ho.2 hs (room 6 (by omega))
        have b1 := a2.things; have b2 := a2.ex; have b3 := a2.few
        rw [tt] at b1; rw [tx] at b2; rw [tb] at b3
        have gw : Gr w w2 := Gr.of_eq b1
        cases o with
        | none =>
          simp only [letW, a1]
          exact ⟨WF.same (w := w) b1 f, gw, ⟨by omega, by rw [b1]; omega, by omega⟩, fun s => a2.safe s, fun h => (nomatch h), Nat.le_succ _⟩
        | some v =>
          have hfew : w2.few = true := by unfold Wd.few; rw [b1]; simp; omega
          have hm : w2.make x t v = some { w2 with things := w2.things ++ [⟨x, t, v⟩] } := by unfold Wd.make; rw [if_pos hfew]
          obtain ⟨f3, g3⟩ := (WF.same (w := w) b1 f).make (x := x) ht (a3 v rfl)
          simp only [letW, a1, hm]
          rw [if_pos (by omega)]
          refine ⟨f3, gw.trans g3, ⟨by show w2.br.length ≤ 100 * w2.ex; omega, by show (w2.things ++ _).length ≤ 10 * w2.ex; rw [b1]; simp; omega, by show w2.ex ≤ 1000; omega⟩, fun s => a2.safe s, fun _ => ?_, putN_len _ _ _⟩
          intro y ty hy
          rw [show stepT tys (.lt x t s) = putT tys x t from rfl, putT_lookup] at hy
          rw [putN_lookup]
          by_cases hyx : y = x
          · rw [if_pos hyx] at hy ⊢
            cases hy
            refine ⟨w2.things.length, ⟨x, t, v⟩, rfl, ?_, rfl⟩
            show (w2.things ++ [_])[w2.things.length]? = _
            rw [List.getElem?_append_right (Nat.le_refl _)]; simp
          · rw [if_neg hyx] at hy ⊢
            exact (e.gr (gw.trans g3)) y ty hy
      | pt x k s =>
        simp only [stOk, Bool.and_eq_true, decide_eq_true_eq] at ho
        have hs : (match placeF tys x k with
          | some r => some r
          | none => if headW (seenT tys x k) = true then srcF tys s (seenT tys x k).tail ex else some .mw) = none := hs
        cases hp : placeF tys x k with
        | some r => rw [hp] at hs; cases hs
        | none =>
          rw [hp] at hs
          obtain ⟨o, w2, a1, a2, a3, a4⟩ := place_rd cl f1 e1 hp (room k (by omega))
          have b1 := a2.things; have b2 := a2.ex; have b3 := a2.few
          rw [tt] at b1; rw [tx] at b2; rw [tb] at b3
          have gw : Gr w w2 := Gr.of_eq b1
          cases o with
          | none =>
            simp only [putW, a1]
            exact ⟨WF.same (w := w) b1 f, gw, ⟨by omega, by rw [b1]; omega, by omega⟩, fun s => a2.safe s, fun h => (nomatch h), Nat.le_succ _⟩
          | some m =>
            cases hsn : seenT tys x k with
            | nil => exact absurd hsn a3
            | cons y b =>
              rw [hsn] at hs a4
              have hs : (if y.w = true then srcF tys s b ex else some .mw) = none := hs
              by_cases hy : y.w = true
              · rw [if_pos hy] at hs
                obtain ⟨q', c1, c2⟩ := a4 m rfl
                obtain ⟨o2, w3, d1, d2, d3⟩ := looked_rd cl (WF.same (w := w) b1 f) (e.gr gw) ho.2 hs (by unfold Room; rw [b1]; omega)
                have b4 := d2.things; have b5 := d2.ex; have b6 := d2.few
                have b7 : w3.things = w.things := b4.trans b1
                cases o2 with
                | none =>
                  simp only [putW, a1, d1]
                  exact ⟨WF.same (w := w) b7 f, Gr.of_eq b7, ⟨by omega, by rw [b7]; omega, by omega⟩, fun s => (d2.safe s).trans (a2.safe s), fun h => (nomatch h), Nat.le_succ _⟩
                | some v =>
                  obtain ⟨w4, k1, k2, k3, k4, k5, k6, k7⟩ := write_good cl (WF.same (w := w) b7 f) (n := m) (q := q') (by rw [b4]; exact c1) c2 hy (d3 v rfl) (by unfold Room; rw [b7]; omega)
                  simp only [putW, a1, d1, k1]
                  have gr4 : Gr w w4 := (Gr.of_eq b7).trans k3
                  exact ⟨k2, gr4, ⟨by rw [k4]; omega, by rw [k5, b7, k4]; omega, by rw [k4]; omega⟩, fun s => (k7 s).trans ((d2.safe s).trans (a2.safe s)), fun _ => e.gr gr4, Nat.le_succ _⟩
              · rw [if_neg hy] at hs; cases hs
      | cl fn ss =>
        simp only [stOk, Bool.and_eq_true, List.all_eq_true] at ho
        have hc : (match ((fs.take i).map fun g => (g.name, g.params.length)).lookup fn with
          | some n => n == ss.length
          | none => false) = true := hc
        cases hl : ((fs.take i).map fun g => (g.name, g.params.length)).lookup fn with
        | none => rw [hl] at hc; cases hc
        | some m =>
          rw [hl] at hc
          have hm : m = ss.length := by simpa using hc
          obtain ⟨j, g, j1, j2, j3, j4⟩ := find_index fs i fn m hl
          have hs : (match fs.find? (fun g => g.name == fn) with
            | some g => firstF ((g.params.zip ss).map fun q => srcF tys q.2 q.1.2.tail ex)
            | none => none) = none := hs
          rw [j3] at hs
          have hs := firstF_none hs
          obtain ⟨p4, pty, b12, bok⟩ := fcOk_parts (hfs.ok j g j2)
          have hss : ss.length ≤ 4 := by omega
          obtain ⟨o, w2, a1, a2, a3⟩ := all_rd cl (ps := g.params) f1 e1 ho.2 (by omega) hs (room _ (by omega))
          have b1 := a2.things; have b2 := a2.ex; have b3 := a2.few
          rw [tt] at b1; rw [tx] at b2; rw [tb] at b3
          have gw : Gr w w2 := Gr.of_eq b1
          cases o with
          | none =>
            simp only [callF, a1]
            exact ⟨WF.same (w := w) b1 f, gw, ⟨by omega, by rw [b1]; omega, by omega⟩, fun s => a2.safe s, fun h => (nomatch h), Nat.le_succ _⟩
          | some vs =>
            obtain ⟨v1, v2⟩ := a3 vs rfl
            obtain ⟨w3, inner, m1, m2, m3, m4, m5, m6, m7, m8⟩ := make_all_good g.params vs w2 [] [] (WF.same (w := w) b1 f) (by omega) v2 (fun p hp h => by
              have := pty p hp
              rw [h] at this; simp [typeOk] at this) (fun x t hx => by cases hx) (by simpa using hfs.nod j g j2) (by rw [b1]; omega) (by omega) (by simp; omega)
            simp only [callF, a1, j3, m1]
            have ih := act_good cl hfs n j (by omega)
            have z3 : Sz w3 := ⟨by rw [m6, m4]; omega, by rw [m5, m4, b1]; omega, by rw [m4]; omega⟩
            have hb := all_good ih g.body 0 w3 inner g.params m2 (by simpa using m7) z3 bok (hfs.calls j g j2) (hfs.flt j g j2) (by simp at m8; omega)
            cases hr : actAllF (actF fs n) w3 inner g.body with
            | bad => rw [hr] at hb; exact hb.elim
            | long w4 kn4 => trivial
            | ok b w4 kn4 =>
              rw [hr] at hb
              obtain ⟨q1, q2, q3, q4, _⟩ := hb
              have gr4 : Gr w w4 := (gw.trans m3).trans q2
              exact ⟨q1, gr4, q3, fun s => (q4 s).trans (m6.trans (a2.safe s)), fun _ => e.gr gr4, Nat.le_succ _⟩
theorem faults_nil {p : Prg} {ex : Ext} (h : faultsF p ex = []) : (∀ f ∈ p.funs, blockF p.funs ex 0 f.params f.body = []) ∧ blockF p.funs ex 0 [] p.stmts = [] := by
  unfold faultsF at h
  obtain ⟨h1, h2⟩ := List.append_eq_nil_iff.mp h
  refine ⟨fun f hf => ?_, List.map_eq_nil_iff.mp h2⟩
  have := List.flatMap_eq_nil_iff.mp h1 f hf
  exact List.map_eq_nil_iff.mp this
theorem Ok.fsOk {p : Prg} (h : Ok p) {ex : Ext} (hf : faultsF p ex = []) : FsOk p.funs ex :=
  ⟨fun j g hj => (faults_nil hf).1 g (List.mem_of_getElem? hj), fun j g hj => h.body j g hj, fun j g hj => h.funs g (List.mem_of_getElem? hj), fun j g hj => h.params (List.mem_of_getElem? hj)⟩
theorem wf0 : WF C w0 := ⟨fun n q h => by simp [w0] at h, fun n q h => by simp [w0] at h⟩
/-- a program that is let by is run to an end -/
theorem run_good (cl : CL C ex safe) {p : Prg} (h : Ok p) (hf : faultsF p ex = []) : Good C safe w0 (runW p) fun _ _ _ => True := by
  have ha := act_good cl (h.fsOk hf) 10 p.funs.length (by have := h.few; omega)
  exact all_good ha p.stmts 0 w0 [] [] wf0 (fun x t hx => by cases hx) ⟨by decide, by decide, by decide⟩ h.stmts (by rw [List.take_length]; exact h.calls) (faults_nil hf).2 (by have := h.most; simp; omega)
end
/-- lengths alone -/
theorem cl_len (ex : Ext) : CL (fun a b => a.length = b.length) ex False := by
  refine ⟨fun _ => rfl, fun _ _ _ h k => h.trans k, fun _ _ h => h, fun _ _ _ _ h _ => by simpa using h, fun _ _ _ _ h _ => by simpa using h.symm, fun a u h => ?_, fun h => h.elim, fun h => h.elim⟩
  unfold convF at h
  by_cases hl : a.length = u.length
  · exact hl
  · rw [if_pos hl] at h; cases h
theorem run_fine {p : Prg} (h : Ok p) {ex : Ext} (hf : faultsF p ex = []) : runW p ≠ .bad := fun z => by
  have := run_good (cl_len ex) h hf
  rw [z] at this; exact this
end Pg
end

section
/-! worlds: where all conversions hold, no right is broken -/
namespace Pg
open PySem Rx Lw
theorem cl_conv {ex : Ext} (hex : ∀ p ∈ ex, p.1.length = p.2.length → conv p.1 p.2 = true) : CL (fun a b => a.length = b.length ∧ conv a b = true) ex True := by
  refine ⟨fun a => ⟨rfl, conv_refl' a⟩, fun a b c h k => ⟨h.1.trans k.1, conv_trans' a b c h.1 k.1 h.2 k.2⟩, fun _ _ h => h.1, fun x a y b h hy => ?_, fun x a y b h hy => ?_, fun a u h => ?_, fun _ x a y b h hy => ?_, fun _ x a y b h hy => ?_⟩
  · obtain ⟨h1, h2⟩ := h
    rw [conv_cons] at h2
    simp only [Bool.and_eq_true, Bool.or_eq_true, hy, Bool.not_true, Bool.false_eq_true, false_or] at h2
    exact ⟨by simpa using h1, h2.1.2⟩
  · obtain ⟨h1, h2⟩ := h
    rw [conv_cons] at h2
    simp only [Bool.and_eq_true, Bool.or_eq_true, hy, Bool.not_true, Bool.false_eq_true, false_or] at h2
    exact ⟨by simpa using h1.symm, h2.2⟩
  · unfold convF at h
    by_cases hl : a.length = u.length
    · rw [if_neg (by simpa using hl)] at h
      refine ⟨hl, ?_⟩
      by_cases hc : conv a u = true
      · exact hc
      · by_cases hm : (a, u) ∈ ex
        · exact hex _ hm hl
        · rw [if_neg (by simp [hc, hm])] at h; cases h
    · rw [if_pos hl] at h; cases h
  · obtain ⟨h1, h2⟩ := h
    rw [conv_cons] at h2
    simp only [Bool.and_eq_true] at h2
    have h3 := h2.1.1
    revert h3 hy
    rcases x with ⟨_ | _, _ | _⟩ <;> rcases y with ⟨_ | _, _ | _⟩ <;> simp [wi]
  · obtain ⟨h1, h2⟩ := h
    rw [conv_cons] at h2
    simp only [Bool.and_eq_true] at h2
    have h3 := h2.1.1
    revert h3 hy
    rcases x with ⟨_ | _, _ | _⟩ <;> rcases y with ⟨_ | _, _ | _⟩ <;> simp [wi]
/-- no right is broken -/
theorem run_safe {p : Prg} (h : Ok p) {ex : Ext} (hex : ∀ q ∈ ex, q.1.length = q.2.length → conv q.1 q.2 = true) (hf : faultsF p ex = []) {b : Bool} {w : Wd} {kn : Kn} (hr : runW p = .ok b w kn) : w.br = [] := by
  have := run_good (cl_conv hex) h hf
  rw [hr] at this
  exact this.2.2.2.1 trivial
end Pg
end

section
/-! bars -/
namespace Lw
open PySem Rx Pg
def hasL (y : Rt) (l : Bool) : Bool := if l then y.r else y.w
def isBar : List Rt → List Rt → List Bool → Bool → Bool
  | x :: _, y :: _, [], l => hasL y l && !hasL x l
  | _ :: a, y :: b, s :: ls, l => hasL y s && (if s then isBar a b ls l else isBar b a ls l)
  | _, _, _, _ => false
theorem find_bar : ∀ (a b : List Rt) (ls : List Bool) (l : Bool), find a b = some (ls, l) → isBar a b ls l = true
  | [], _, _, _, h => by simp [find] at h
  | _ :: _, [], _, _, h => by simp [find] at h
  | x :: a, y :: b, ls, l, h => by
    have i1 := find_bar a b
    have i2 := find_bar b a
    rw [find] at h
    cases h1 : find a b <;> cases h2 : find b a <;> rw [h1, h2] at h <;> rcases x with ⟨_ | _, _ | _⟩ <;> rcases y with ⟨_ | _, _ | _⟩ <;> simp at h <;> obtain ⟨rfl, rfl⟩ := h <;> simp [isBar, hasL] <;> first | exact i1 _ _ h1 | exact i2 _ _ h2
termination_by a b => a.length + b.length
end Lw
end

section
/-! breaking programs: they are let by with the one extra conversion -/
namespace Pg
open PySem Rx Lw
def RW : Rt := ⟨true, true⟩
def nx (i : Nat) : Nm := [120, 97 + i]
def ny (i : Nat) : Nm := [121, 97 + i]
def nc (i : Nat) : Nm := [99, 97 + i]
def emptyS (t : List Rt) : Src := if t = [] then .num 0 else .null
def stepP (p : List Rt × List Rt) (b : Bool) : List Rt × List Rt := if b then (p.1.tail, p.2.tail) else (p.2.tail, p.1.tail)
/-- the pair behind the first i letters -/
def pairAt (p : List Rt × List Rt) (ls : List Bool) (i : Nat) : List Rt × List Rt := (ls.take i).foldl stepP p
theorem pairAt_succ (p : List Rt × List Rt) (ls : List Bool) (i : Nat) (b : Bool) (h : ls[i]? = some b) : pairAt p ls (i + 1) = stepP (pairAt p ls i) b := by
  unfold pairAt
  rw [List.take_add_one, h]
  simp
/-- x of a level becomes y of that level -/
def cvS (p : List Rt × List Rt) (ls : List Bool) : Nat → List St
  | 0 => [.lt (ny 0) (RW :: p.2) (.val (nx 0) 0)]
  | n + 1 => if ls[n]?.getD true then
      [.lt (nc n) (pairAt p ls n).1 (.val (nx (n + 1)) 0), .lt (nx n) (RW :: (pairAt p ls n).1) (.adr (nc n) 0)] ++ cvS p ls n ++ [.lt (ny (n + 1)) (RW :: (pairAt p ls (n + 1)).2) (.val (ny n) 1)]
    else
      [.lt (nc n) (RW :: (pairAt p ls n).1.tail) (emptyS (pairAt p ls n).1.tail), .lt (nx n) (RW :: (pairAt p ls n).1) (.adr (nc n) 0)] ++ cvS p ls n ++ [.pt (ny n) 1 (.val (nx (n + 1)) 0), .lt (ny (n + 1)) (RW :: (pairAt p ls (n + 1)).2) (.val (nc n) 0)]
def brS (p : List Rt × List Rt) (ls : List Bool) (l : Bool) : List St :=
  [.lt [122] (pairAt p ls ls.length).1 (emptyS (pairAt p ls ls.length).1.tail), .lt (nx ls.length) (RW :: (pairAt p ls ls.length).1) (.adr [122] 0)] ++ cvS p ls ls.length ++
    [if l then .lt [118] (RW :: (pairAt p ls ls.length).2.tail) (.val (ny ls.length) 1) else .pt (ny ls.length) 1 (emptyS (pairAt p ls ls.length).2.tail)]
def brP (p : List Rt × List Rt) (ls : List Bool) (l : Bool) : Prg := ⟨[], brS p ls l⟩
/-- what is known of the way: at each letter both have a right, the second one with the letter -/
structure Way (p : List Rt × List Rt) (ls : List Bool) (l : Bool) : Prop where
  len : p.1.length = p.2.length
  at_ : ∀ (i : Nat) (b : Bool), ls[i]? = some b → ∃ x a y c, pairAt p ls i = (x :: a, y :: c) ∧ a.length = c.length ∧ hasL y b = true
  last : ∃ x a y c, pairAt p ls ls.length = (x :: a, y :: c) ∧ a.length = c.length ∧ hasL y l = true ∧ hasL x l = false
theorem pairAt_cons (p : List Rt × List Rt) (s : Bool) (ls : List Bool) (i : Nat) : pairAt p (s :: ls) (i + 1) = pairAt (stepP p s) ls i := rfl
theorem way_of : ∀ (ls : List Bool) (a b : List Rt) (l : Bool), a.length = b.length → isBar a b ls l = true → Way (a, b) ls l
  | ls, [], [], l, _, h => by cases ls <;> simp [isBar] at h
  | [], x :: a, y :: b, l, hl, h => by
    simp [isBar] at h
    exact ⟨hl, fun i s hs => by simp at hs, x, a, y, b, rfl, by simpa using hl, h.1, h.2⟩
  | s :: ls, x :: a, y :: b, l, hl, h => by
    simp only [isBar, Bool.and_eq_true] at h
    have hl2 : a.length = b.length := by simpa using hl
    have ih : Way (stepP (x :: a, y :: b) s) ls l := by
      cases s with
      | true => exact way_of ls a b l hl2 h.2
      | false => exact way_of ls b a l hl2.symm h.2
    refine ⟨hl, fun i c hc => ?_, ih.last⟩
    cases i with
    | zero =>
      simp at hc; subst hc
      exact ⟨x, a, y, b, rfl, hl2, h.1⟩
    | succ i => exact ih.at_ i c (by simpa using hc)
/-! ### faultless -/
def FL (fs : List Fc) (ex : Ext) : Tys → List St → Prop
  | _, [] => True
  | tys, s :: r => stF fs tys s ex = none ∧ FL fs ex (stepT tys s) r
def after (tys : Tys) (l : List St) : Tys := l.foldl stepT tys
theorem FL.append {fs : List Fc} {ex : Ext} : ∀ {l m : List St} {tys : Tys}, FL fs ex tys l → FL fs ex (after tys l) m → FL fs ex tys (l ++ m)
  | [], _, _, _, h => h
  | s :: l, m, tys, h, k => ⟨h.1, FL.append h.2 k⟩
theorem FL.block {fs : List Fc} {ex : Ext} : ∀ {l : List St} {tys : Tys} {n : Nat}, FL fs ex tys l → blockF fs ex n tys l = []
  | [], _, _, _ => rfl
  | s :: l, tys, n, h => by
    unfold blockF
    rw [h.1, FL.block h.2]; rfl
theorem after_append (tys : Tys) (l m : List St) : after tys (l ++ m) = after (after tys l) m := List.foldl_append
theorem after_lookup (y : Nm) : ∀ (l : List St) (tys : Tys), y ∉ lets l → (after tys l).lookup y = tys.lookup y
  | [], _, _ => rfl
  | .lt x t s :: l, tys, h => by
    simp only [lets, List.mem_cons, not_or] at h
    show (after (putT tys x t) l).lookup y = _
    rw [after_lookup y l _ h.2, putT_lookup, if_neg h.1]
  | .pt x k s :: l, tys, h => after_lookup y l tys h
  | .cl f ss :: l, tys, h => after_lookup y l tys h
theorem lets_append : ∀ (l m : List St), lets (l ++ m) = lets l ++ lets m
  | [], _ => rfl
  | .lt x t s :: l, m => by simp [lets, lets_append l m]
  | .pt x k s :: l, m => by simp [lets, lets_append l m]
  | .cl f ss :: l, m => by simp [lets, lets_append l m]
theorem cv_lets (p : List Rt × List Rt) (ls : List Bool) : ∀ (n : Nat) (x : Nm), x ∈ lets (cvS p ls n) → (∃ i, i ≤ n ∧ x = ny i) ∨ (∃ i, i < n ∧ x = nx i) ∨ ∃ i, i < n ∧ x = nc i
  | 0, x, h => by simp [cvS, lets] at h; exact .inl ⟨0, Nat.le_refl _, h⟩
  | n + 1, x, h => by
    have step : x ∈ lets (cvS p ls n) ∨ x = nc n ∨ x = nx n ∨ x = ny (n + 1) := by
      unfold cvS at h
      split at h <;> simp only [lets_append, lets, List.mem_append, List.mem_cons, List.not_mem_nil, or_false] at h <;> rcases h with ((h | h) | h) | h <;> simp [h]
    rcases step with h | h | h | h
    · rcases cv_lets p ls n x h with ⟨i, h1, h2⟩ | ⟨i, h1, h2⟩ | ⟨i, h1, h2⟩
      · exact .inl ⟨i, by omega, h2⟩
      · exact .inr (.inl ⟨i, by omega, h2⟩)
      · exact .inr (.inr ⟨i, by omega, h2⟩)
    · exact .inr (.inr ⟨n, by omega, h⟩)
    · exact .inr (.inl ⟨n, by omega, h⟩)
    · exact .inl ⟨n + 1, Nat.le_refl _, h⟩
theorem nx_notin (p : List Rt × List Rt) (ls : List Bool) (n m : Nat) (h : n ≤ m) : nx m ∉ lets (cvS p ls n) := fun hx => by
  rcases cv_lets p ls n _ hx with ⟨i, h1, h2⟩ | ⟨i, h1, h2⟩ | ⟨i, h1, h2⟩ <;> simp [nx, ny, nc] at h2 <;> omega
theorem nc_notin (p : List Rt × List Rt) (ls : List Bool) (n m : Nat) (h : n ≤ m) : nc m ∉ lets (cvS p ls n) := fun hx => by
  rcases cv_lets p ls n _ hx with ⟨i, h1, h2⟩ | ⟨i, h1, h2⟩ | ⟨i, h1, h2⟩ <;> simp [nx, ny, nc] at h2 <;> omega
theorem convF_refl (a : List Rt) (ex : Ext) : convF a a ex = none := by
  unfold convF; rw [if_neg (by simp), if_pos (by simp [conv_refl'])]
theorem src_empty (tys : Tys) (t : List Rt) (ex : Ext) : srcF tys (emptyS t) t ex = none := by
  unfold emptyS
  by_cases h : t = []
  · rw [if_pos h]; simp [srcF, h]
  · rw [if_neg h]; simp [srcF, h]
theorem src_val0 {tys : Tys} {x : Nm} {r : Rt} {t u : List Rt} {ex : Ext} (h : tys.lookup x = some (r :: t)) (hr : r.r = true) (hc : convF t u ex = none) : srcF tys (.val x 0) u ex = none := by
  simp [srcF, placedF, placeF, seenT, h, headR, hr, hc]
theorem src_adr0 {tys : Tys} {x : Nm} {r : Rt} {t u : List Rt} {ex : Ext} (h : tys.lookup x = some (r :: t)) (hc : convF (r :: t) u ex = none) : srcF tys (.adr x 0) u ex = none := by
  simp [srcF, placedF, placeF, seenT, h, hc]
theorem src_val1 {tys : Tys} {x : Nm} {r y : Rt} {t u : List Rt} {ex : Ext} (h : tys.lookup x = some (r :: y :: t)) (hr : r.r = true) (hy : y.r = true) (hc : convF t u ex = none) : srcF tys (.val x 1) u ex = none := by
  simp [srcF, placedF, placeF, seenT, h, headR, hr, hy, hc]
theorem put1 {tys : Tys} {x : Nm} {r y : Rt} {t : List Rt} {s : Src} {ex : Ext} (h : tys.lookup x = some (r :: y :: t)) (hr : r.r = true) (hy : y.w = true) (hc : srcF tys s t ex = none) : putF' tys x 1 s ex = none := by
  simp [putF', placedF, placeF, seenT, h, headW, hr, hy, hc]
theorem cv_fl {p : List Rt × List Rt} {ls : List Bool} {l : Bool} (w : Way p ls l) {ex : Ext} (hex : convF p.1 p.2 ex = none) : ∀ (n : Nat) (tys : Tys), n ≤ ls.length → tys.lookup (nx n) = some (RW :: (pairAt p ls n).1) →
    FL [] ex tys (cvS p ls n) ∧ (after tys (cvS p ls n)).lookup (ny n) = some (RW :: (pairAt p ls n).2)
  | 0, tys, _, h => by
    refine ⟨⟨?_, trivial⟩, ?_⟩
    · show srcF tys (.val (nx 0) 0) p.2 ex = none
      exact src_val0 (by simpa [pairAt] using h) rfl hex
    · show (putT tys (ny 0) (RW :: p.2)).lookup (ny 0) = _
      rw [putT_lookup, if_pos rfl]; rfl
  | n + 1, tys, hn, h => by
    obtain ⟨b, hb⟩ : ∃ b, ls[n]? = some b := ⟨ls[n]'(by omega), List.getElem?_eq_getElem (by omega)⟩
    obtain ⟨x, a, y, c, e1, e2, e3⟩ := w.at_ n b hb
    have e4 := pairAt_succ p ls n b hb
    have hxc : ¬ nx n = nc n := by simp [nx, nc]
    have hcx : ¬ nc n = nx n := by simp [nx, nc]
    have hxx : ¬ nx (n + 1) = nx n := by simp [nx]
    have hxc1 : ¬ nx (n + 1) = nc n := by simp [nx, nc]
    have hyy : ¬ ny n = ny (n + 1) := by simp [ny]
    cases b with
    | true =>
      have e5 : pairAt p ls (n + 1) = (a, c) := by rw [e4, e1]; rfl
      have ec : cvS p ls (n + 1) = [.lt (nc n) (x :: a) (.val (nx (n + 1)) 0), .lt (nx n) (RW :: x :: a) (.adr (nc n) 0)] ++ cvS p ls n ++ [.lt (ny (n + 1)) (RW :: c) (.val (ny n) 1)] := by
        conv => lhs; unfold cvS
        rw [hb, e1, e5]; rfl
      rw [ec, e5]
      rw [e5] at h
      obtain ⟨i1, i2⟩ := cv_fl w hex n (putT (putT tys (nc n) (x :: a)) (nx n) (RW :: x :: a)) (by omega) (by rw [putT_lookup, if_pos rfl, e1])
      have hd : FL [] ex tys [.lt (nc n) (x :: a) (.val (nx (n + 1)) 0), .lt (nx n) (RW :: x :: a) (.adr (nc n) 0)] := ⟨src_val0 (u := a) h rfl (convF_refl a ex), src_adr0 (r := x) (t := a) (u := x :: a) (by
        show (putT tys (nc n) (x :: a)).lookup (nc n) = _
        rw [putT_lookup, if_pos rfl]) (convF_refl _ ex), trivial⟩
      rw [e1] at i2
      refine ⟨(hd.append i1).append ⟨?_, trivial⟩, ?_⟩
      · rw [after_append]
        exact src_val1 (u := c) i2 rfl e3 (convF_refl c ex)
      · rw [after_append]
        show (putT _ (ny (n + 1)) (RW :: c)).lookup (ny (n + 1)) = _
        rw [putT_lookup, if_pos rfl]
    | false =>
      have e5 : pairAt p ls (n + 1) = (c, a) := by rw [e4, e1]; rfl
      have ec : cvS p ls (n + 1) = [.lt (nc n) (RW :: a) (emptyS a), .lt (nx n) (RW :: x :: a) (.adr (nc n) 0)] ++ cvS p ls n ++ [.pt (ny n) 1 (.val (nx (n + 1)) 0), .lt (ny (n + 1)) (RW :: a) (.val (nc n) 0)] := by
        conv => lhs; unfold cvS
        rw [hb, e1, e5]; rfl
      rw [ec, e5]
      rw [e5] at h
      obtain ⟨i1, i2⟩ := cv_fl w hex n (putT (putT tys (nc n) (RW :: a)) (nx n) (RW :: x :: a)) (by omega) (by rw [putT_lookup, if_pos rfl, e1])
      have hcv : convF (RW :: a) (x :: a) ex = none := by
        unfold convF
        rw [if_neg (by simp), if_pos]
        rw [conv_cons, conv_refl' a]
        rcases x with ⟨_ | _, _ | _⟩ <;> rfl
      have hd : FL [] ex tys [.lt (nc n) (RW :: a) (emptyS a), .lt (nx n) (RW :: x :: a) (.adr (nc n) 0)] := ⟨src_empty tys a ex, src_adr0 (r := RW) (t := a) (u := x :: a) (by
        show (putT tys (nc n) (RW :: a)).lookup (nc n) = _
        rw [putT_lookup, if_pos rfl]) hcv, trivial⟩
      rw [e1] at i2
      have k1 : (after (putT (putT tys (nc n) (RW :: a)) (nx n) (RW :: x :: a)) (cvS p ls n)).lookup (nx (n + 1)) = some (RW :: c) := by
        rw [after_lookup _ _ _ (nx_notin p ls n (n + 1) (by omega)), putT_lookup, if_neg hxx, putT_lookup, if_neg hxc1]; exact h
      have k2 : (after (putT (putT tys (nc n) (RW :: a)) (nx n) (RW :: x :: a)) (cvS p ls n)).lookup (nc n) = some (RW :: a) := by
        rw [after_lookup _ _ _ (nc_notin p ls n n (by omega)), putT_lookup, if_neg hcx, putT_lookup, if_pos rfl]
      refine ⟨(hd.append i1).append ⟨?_, ?_, trivial⟩, ?_⟩
      · rw [after_append]
        exact put1 i2 rfl e3 (src_val0 (u := c) k1 rfl (convF_refl c ex))
      · rw [after_append]
        exact src_val0 (u := a) k2 rfl (convF_refl a ex)
      · rw [after_append]
        show (putT _ (ny (n + 1)) (RW :: a)).lookup (ny (n + 1)) = _
        rw [putT_lookup, if_pos rfl]
theorem br_fl {p : List Rt × List Rt} {ls : List Bool} {l : Bool} (w : Way p ls l) {ex : Ext} (hex : convF p.1 p.2 ex = none) : faultsF (brP p ls l) ex = [] := by
  obtain ⟨x, a, y, c, e1, e2, e3, e4⟩ := w.last
  have key : FL [] ex [] (brS p ls l) := by
    unfold brS
    rw [e1]
    obtain ⟨i1, i2⟩ := cv_fl w hex ls.length (putT (putT [] [122] (x :: a)) (nx ls.length) (RW :: x :: a)) (Nat.le_refl _) (by rw [putT_lookup, if_pos rfl, e1])
    rw [e1] at i2
    have hd : FL [] ex [] [.lt [122] (x :: a) (emptyS a), .lt (nx ls.length) (RW :: x :: a) (.adr [122] 0)] := ⟨src_empty [] a ex, (src_adr0 (tys := putT [] [122] (x :: a)) (x := [122]) (r := x) (t := a) (u := x :: a) (by
      rw [putT_lookup, if_pos rfl]) (convF_refl _ ex) : srcF (putT [] [122] (x :: a)) (.adr [122] 0) (x :: a) ex = none), trivial⟩
    refine (hd.append i1).append ?_
    rw [after_append]
    cases l with
    | true => exact ⟨src_val1 (u := c) i2 rfl e3 (convF_refl c ex), trivial⟩
    | false => exact ⟨put1 i2 rfl e3 (src_empty _ c ex), trivial⟩
  unfold faultsF
  show [] ++ (blockF [] ex 0 [] (brS p ls l)).map _ = []
  rw [key.block]; rfl
end Pg
end

section
/-! breaking programs: they break a right -/
namespace Pg
open PySem Rx Lw
abbrev act0 : Wd → Kn → St → Ar := actF [] 10
def Runs (w : Wd) (kn : Kn) (l : List St) (w' : Wd) (kn' : Kn) : Prop := actAllF act0 w kn l = .ok true w' kn'
theorem Runs.append {w : Wd} {kn : Kn} {w1 : Wd} {kn1 : Kn} {w2 : Wd} {kn2 : Kn} {l m : List St} (h : Runs w kn l w1 kn1) (k : Runs w1 kn1 m w2 kn2) : Runs w kn (l ++ m) w2 kn2 := by
  induction l generalizing w kn with
  | nil => cases h; exact k
  | cons s l ih =>
    unfold Runs at h ⊢
    simp only [actAllF, List.cons_append] at h ⊢
    cases hr : act0 w kn s with
    | bad => rw [hr] at h; cases h
    | long a b => rw [hr] at h; cases h
    | ok b wa ka =>
      rw [hr] at h
      cases b with
      | true => exact ih h
      | false => cases h
theorem Runs.one {w w' : Wd} {kn kn' : Kn} {s : St} (h : act0 w kn s = .ok true w' kn') : Runs w kn [s] w' kn' := by
  unfold Runs; simp only [actAllF, h]
theorem Runs.cons {w w1 w' : Wd} {kn kn1 kn' : Kn} {s : St} {l : List St} (h : act0 w kn s = .ok true w1 kn1) (k : Runs w1 kn1 l w' kn') : Runs w kn (s :: l) w' kn' := (Runs.one h).append k
structure Bd (w : Wd) (kn : Kn) : Prop where
  br : w.br.length ≤ 10 * w.ex
  th : w.things.length ≤ w.ex
  kn : kn.length ≤ w.ex
  ne : ∀ (n : Nat) (q : Th), w.things[n]? = some q → q.kind ≠ []
/-- only breaches come -/
structure Rz (w w' : Wd) (k : Nat) : Prop where
  things : w'.things = w.things
  ex : w'.ex = w.ex
  few : w'.br.length ≤ w.br.length + k
theorem Rz.trans {a b c : Wd} {k l : Nat} (h : Rz a b k) (g : Rz b c l) : Rz a c (k + l) := ⟨g.things.trans h.things, g.ex.trans h.ex, by have := h.few; have := g.few; omega⟩
theorem read_s {w : Wd} {n : Nat} {q : Th} (hq : w.things[n]? = some q) (hk : q.kind ≠ []) (h1 : w.br.length ≤ 100000) (h2 : w.things.length ≤ 100000) : ∃ w', w.read n = some (q.val, w') ∧ Rz w w' 1 := by
  cases hk2 : q.kind with
  | nil => exact absurd hk2 hk
  | cons x a =>
    refine ⟨w.brk true n x.r, ?_, ⟨by unfold Wd.brk; split <;> rfl, by unfold Wd.brk; split <;> rfl, by unfold Wd.brk; split <;> simp⟩⟩
    have hf : w.few = true := by unfold Wd.few; simp; omega
    unfold Wd.read
    rw [hq]
    simp only [hk2, hf, if_true]
theorem val0_s {w : Wd} {kn : Kn} {x : Nm} {i : Nat} {q : Th} (hx : kn.lookup x = some i) (hq : w.things[i]? = some q) (hk : q.kind ≠ []) (h1 : w.br.length ≤ 100000) (h2 : w.things.length ≤ 100000) : ∃ w', lookedUp w kn (.val x 0) = some (some q.val, w') ∧ Rz w w' 1 := by
  obtain ⟨w', a1, a2⟩ := read_s hq hk h1 h2
  exact ⟨w', by simp only [lookedUp, thingAt, hx, follow, a1], a2⟩
theorem adr0_s {w : Wd} {kn : Kn} {x : Nm} {i : Nat} (hx : kn.lookup x = some i) : lookedUp w kn (.adr x 0) = some (some (.th i), w) := by simp only [lookedUp, thingAt, hx, follow]
theorem at1_s {w : Wd} {kn : Kn} {x : Nm} {i m : Nat} {q : Th} (hx : kn.lookup x = some i) (hq : w.things[i]? = some q) (hv : q.val = .th m) (hk : q.kind ≠ []) (h1 : w.br.length ≤ 100000) (h2 : w.things.length ≤ 100000) : ∃ w', thingAt w kn x 1 = some (some m, w') ∧ Rz w w' 1 := by
  obtain ⟨w', a1, a2⟩ := read_s hq hk h1 h2
  exact ⟨w', by simp only [thingAt, hx, follow, a1, hv], a2⟩
theorem val1_s {w : Wd} {kn : Kn} {x : Nm} {i m : Nat} {q q2 : Th} (hx : kn.lookup x = some i) (hq : w.things[i]? = some q) (hv : q.val = .th m) (hk : q.kind ≠ []) (hq2 : w.things[m]? = some q2) (hk2 : q2.kind ≠ []) (h1 : w.br.length ≤ 90000) (h2 : w.things.length ≤ 100000) :
    ∃ w', lookedUp w kn (.val x 1) = some (some q2.val, w') ∧ Rz w w' 2 := by
  obtain ⟨w1, a1, a2⟩ := at1_s hx hq hv hk (by omega) h2
  obtain ⟨w2, b1, b2⟩ := read_s (w := w1) (n := m) (q := q2) (by rw [a2.things]; exact hq2) hk2 (by have := a2.few; omega) (by rw [a2.things]; omega)
  exact ⟨w2, by simp only [lookedUp, a1, b1], a2.trans b2⟩
theorem empty_s (w : Wd) (kn : Kn) (t : List Rt) : ∃ v, lookedUp w kn (emptyS t) = some (some v, w) := by
  unfold emptyS
  split
  · exact ⟨_, rfl⟩
  · exact ⟨_, rfl⟩
theorem tick_b {w : Wd} {kn : Kn} (b : Bd w kn) (h : w.ex ≤ 500) : ¬ 1000 < w.tick.ex ∧ w.tick.br.length ≤ 5000 ∧ w.tick.things.length ≤ 500 := by
  have := b.br; have := b.th
  refine ⟨by show ¬ 1000 < w.ex + 1; omega, by show w.br.length ≤ _; omega, by show w.things.length ≤ _; omega⟩
theorem let_s {w w2 : Wd} {kn : Kn} {x : Nm} {t : List Rt} {s : Src} {v : Vl} (b : Bd w kn) (h : w.ex ≤ 500) (ht : t ≠ []) (hl : lookedUp w.tick kn s = some (some v, w2)) (r : Rz w.tick w2 3) :
    ∃ w', act0 w kn (.lt x t s) = .ok true w' (putN kn x w.things.length) ∧ w'.things = w.things ++ [⟨x, t, v⟩] ∧ w'.ex = w.ex + 1 ∧ w'.br = w2.br ∧ Bd w' (putN kn x w.things.length) := by
  obtain ⟨h1, h2, h3⟩ := tick_b b h
  have r1 : w2.things = w.things := r.things
  have r2 : w2.ex = w.ex + 1 := r.ex
  have r3 : w2.br.length ≤ w.br.length + 3 := r.few
  have b1 := b.br; have b2 := b.th; have b3 := b.kn
  have hf : w2.few = true := by unfold Wd.few; rw [r1]; simp; omega
  refine ⟨{ w2 with things := w2.things ++ [⟨x, t, v⟩] }, ?_, by show w2.things ++ _ = _; rw [r1], r2, rfl, ⟨by show w2.br.length ≤ 10 * w2.ex; omega, by show (w2.things ++ _).length ≤ w2.ex; rw [r1]; simp; omega, by have := putN_len kn x w.things.length; show _ ≤ w2.ex; omega, fun n q hq => ?_⟩⟩
  · show actF [] (9 + 1) w kn (.lt x t s) = _
    simp only [actF]
    rw [if_neg h1]
    simp only [letW, hl, Wd.make, hf, if_true]
    rw [if_pos (by omega), r1]
  · have hq : (w2.things ++ [⟨x, t, v⟩])[n]? = some q := hq
    rw [r1] at hq
    by_cases hn : n < w.things.length
    · rw [List.getElem?_append_left hn] at hq; exact b.ne n q hq
    · rw [List.getElem?_append_right (by omega)] at hq
      have hm := List.mem_of_getElem? hq
      have : q = ⟨x, t, v⟩ := by simpa using hm
      rw [this]; exact ht
/-- a thing at m is written -/
theorem put_s {w w1 w2 : Wd} {kn : Kn} {x : Nm} {m : Nat} {s : Src} {v : Vl} {q : Th} {y : Rt} {a : List Rt} (b : Bd w kn) (h : w.ex ≤ 500) (ha : thingAt w.tick kn x 1 = some (some m, w1)) (r : Rz w.tick w1 1) (hl : lookedUp w1 kn s = some (some v, w2)) (r2 : Rz w1 w2 3) (hq : w.things[m]? = some q) (hk : q.kind = y :: a) :
    ∃ w', act0 w kn (.pt x 1 s) = .ok true w' kn ∧ w'.things = w.things.set m { q with val := v } ∧ w'.ex = w.ex + 1 ∧ w'.br = (w2.brk false m y.w).br ∧ Bd w' kn := by
  obtain ⟨h1, h2, h3⟩ := tick_b b h
  have r3 : w2.things = w.things := r2.things.trans r.things
  have r4 : w2.ex = w.ex + 1 := r2.ex.trans r.ex
  have r5 : w2.br.length ≤ w.br.length + 4 := by have := r2.few; have : w1.br.length ≤ w.br.length + 1 := r.few; omega
  have b1 := b.br; have b2 := b.th; have b3 := b.kn
  have hf : w2.few = true := by unfold Wd.few; rw [r3]; simp; omega
  have hbr : (w2.brk false m y.w).br.length ≤ w2.br.length + 1 := by unfold Wd.brk; split <;> simp
  have hn := (List.getElem?_eq_some_iff.mp hq).1
  refine ⟨{ w2 with br := (w2.brk false m y.w).br, things := w2.things.set m { q with val := v } }, ?_, by show w2.things.set _ _ = _; rw [r3], r4, rfl, ⟨by show (w2.brk false m y.w).br.length ≤ 10 * w2.ex; omega, by show (w2.things.set _ _).length ≤ w2.ex; rw [r3]; simp; omega, by show _ ≤ w2.ex; omega, fun n q' hq' => ?_⟩⟩
  · have hw : w2.write m v = some { w2 with br := (w2.brk false m y.w).br, things := w2.things.set m { q with val := v } } := by
      unfold Wd.write
      rw [r3, hq]
      simp only [hk, hf, if_true]
      unfold Wd.brk
      split <;> simp [r3]
    show actF [] (9 + 1) w kn (.pt x 1 s) = _
    simp only [actF]
    rw [if_neg h1]
    simp only [putW, ha, hl, hw]
  · have hq' : (w2.things.set m { q with val := v })[n]? = some q' := hq'
    rw [r3] at hq'
    by_cases e : m = n
    · subst e
      rw [List.getElem?_set_self hn] at hq'
      cases hq'
      show q.kind ≠ []
      rw [hk]; simp
    · rw [List.getElem?_set_ne e] at hq'; exact b.ne n q' hq'
def Pre (w w' : Wd) : Prop := ∀ (n : Nat) (q : Th), w.things[n]? = some q → w'.things[n]? = some q
theorem Pre.push {w w' : Wd} {q0 : Th} (h : w'.things = w.things ++ [q0]) : Pre w w' := fun n q hq => by
  rw [h, List.getElem?_append_left (List.getElem?_eq_some_iff.mp hq).1]; exact hq
theorem Pre.trans {a b c : Wd} (h : Pre a b) (k : Pre b c) : Pre a c := fun n q hq => k n q (h n q hq)
theorem last_at {w w' : Wd} {q0 : Th} (h : w'.things = w.things ++ [q0]) : w'.things[w.things.length]? = some q0 := by
  rw [h, List.getElem?_append_right (Nat.le_refl _)]; simp
theorem cv_run {p : List Rt × List Rt} {ls : List Bool} {l : Bool} (wy : Way p ls l) (hl : ls.length ≤ 10) : ∀ (n : Nat) (w : Wd) (kn : Kn) (i : Nat) (q : Th), n ≤ ls.length → Bd w kn → w.ex + (5 * n + 5) ≤ 400 → kn.lookup (nx n) = some i → w.things[i]? = some q →
    ∃ w' kn' j q', Runs w kn (cvS p ls n) w' kn' ∧ Bd w' kn' ∧ Pre w w' ∧ kn'.lookup (ny n) = some j ∧ w'.things[j]? = some q' ∧ q'.val = q.val ∧ (∀ x, x ∉ lets (cvS p ls n) → kn'.lookup x = kn.lookup x) ∧ w'.ex ≤ w.ex + (5 * n + 5)
  | 0, w, kn, i, q, _, b, hx, hi, hq => by
    obtain ⟨_, t1, t2⟩ := tick_b b (by omega)
    obtain ⟨w1, a1, a2⟩ := val0_s (w := w.tick) hi hq (b.ne i q hq) (by omega) (by omega)
    obtain ⟨w', c1, c2, c3, c4, c5⟩ := let_s (x := ny 0) (t := RW :: p.2) b (by omega) (by simp) a1 ⟨a2.things, a2.ex, by have := a2.few; omega⟩
    refine ⟨w', _, w.things.length, _, Runs.one c1, c5, Pre.push c2, by rw [putN_lookup, if_pos rfl], last_at c2, rfl, fun x hx => ?_, by omega⟩
    have : ¬ x = ny 0 := fun z => hx (by rw [z]; simp [cvS, lets])
    rw [putN_lookup, if_neg this]
  | n + 1, w, kn, i, q, hn, b, hx, hi, hq => by
    obtain ⟨bb, hb⟩ : ∃ b, ls[n]? = some b := ⟨ls[n]'(by omega), List.getElem?_eq_getElem (by omega)⟩
    obtain ⟨x, a, y, c, e1, e2, e3⟩ := wy.at_ n bb hb
    have e4 := pairAt_succ p ls n bb hb
    have hxc : ¬ nx n = nc n := by simp [nx, nc]
    have hcx : ¬ nc n = nx n := by simp [nx, nc]
    have hxx : ¬ nx (n + 1) = nx n := by simp [nx]
    have hxc1 : ¬ nx (n + 1) = nc n := by simp [nx, nc]
    obtain ⟨_, t1, t2⟩ := tick_b b (by omega)
    cases bb with
    | true =>
      have e5 : pairAt p ls (n + 1) = (a, c) := by rw [e4, e1]; rfl
      have ec : cvS p ls (n + 1) = [.lt (nc n) (x :: a) (.val (nx (n + 1)) 0), .lt (nx n) (RW :: x :: a) (.adr (nc n) 0)] ++ cvS p ls n ++ [.lt (ny (n + 1)) (RW :: c) (.val (ny n) 1)] := by
        conv => lhs; unfold cvS
        rw [hb, e1, e5]; rfl
      -- the cell
      obtain ⟨w1, a1, a2⟩ := val0_s (w := w.tick) hi hq (b.ne i q hq) (by omega) (by omega)
      obtain ⟨wc, c1, c2, c3, c4, c5⟩ := let_s (x := nc n) (t := x :: a) b (by omega) (by simp) a1 ⟨a2.things, a2.ex, by have := a2.few; omega⟩
      -- its address
      have kc : (putN kn (nc n) w.things.length).lookup (nc n) = some w.things.length := by rw [putN_lookup, if_pos rfl]
      obtain ⟨wx, d1, d2, d3, d4, d5⟩ := let_s (x := nx n) (t := RW :: x :: a) c5 (by omega) (by simp) (adr0_s (w := wc.tick) kc) ⟨rfl, rfl, Nat.le_add_right _ _⟩
      have kx : (putN (putN kn (nc n) w.things.length) (nx n) wc.things.length).lookup (nx n) = some wc.things.length := by rw [putN_lookup, if_pos rfl]
      obtain ⟨wi, ki, j, qj, f1, f2, f3, f4, f5, f6, f7, f8⟩ := cv_run wy hl n wx _ wc.things.length _ (by omega) d5 (by omega) kx (last_at d2)
      -- the last one
      obtain ⟨_, u1, u2⟩ := tick_b f2 (by omega)
      have hcell : wi.things[w.things.length]? = some ⟨nc n, x :: a, q.val⟩ := f3 _ _ ((Pre.push d2) _ _ (last_at c2))
      obtain ⟨w2, g1, g2⟩ := val1_s (w := wi.tick) (kn := ki) (q := qj) (q2 := ⟨nc n, x :: a, q.val⟩) f4 f5 (by rw [f6]) (f2.ne j qj f5) hcell (by simp) (by omega) (by omega)
      obtain ⟨wl, k1, k2, k3, k4, k5⟩ := let_s (x := ny (n + 1)) (t := RW :: c) f2 (by omega) (by simp) g1 ⟨g2.things, g2.ex, by have := g2.few; omega⟩
      refine ⟨wl, _, wi.things.length, _, ?_, k5, ((Pre.push c2).trans (Pre.push d2)).trans (f3.trans (Pre.push k2)), by rw [putN_lookup, if_pos rfl], last_at k2, rfl, fun z hz => ?_, by omega⟩
      · rw [ec]
        exact ((Runs.cons c1 (Runs.one d1)).append f1).append (Runs.one k1)
      · rw [ec] at hz
        simp only [lets_append, lets, List.mem_append, List.mem_cons, List.not_mem_nil, or_false, not_or] at hz
        obtain ⟨⟨⟨z1, z2⟩, z3⟩, z4⟩ := hz
        rw [putN_lookup, if_neg z4, f7 z z3, putN_lookup, if_neg z2, putN_lookup, if_neg z1]
    | false =>
      have e5 : pairAt p ls (n + 1) = (c, a) := by rw [e4, e1]; rfl
      have ec : cvS p ls (n + 1) = [.lt (nc n) (RW :: a) (emptyS a), .lt (nx n) (RW :: x :: a) (.adr (nc n) 0)] ++ cvS p ls n ++ [.pt (ny n) 1 (.val (nx (n + 1)) 0), .lt (ny (n + 1)) (RW :: a) (.val (nc n) 0)] := by
        conv => lhs; unfold cvS
        rw [hb, e1, e5]; rfl
      obtain ⟨v0, hv0⟩ := empty_s w.tick kn a
      obtain ⟨wc, c1, c2, c3, c4, c5⟩ := let_s (x := nc n) (t := RW :: a) b (by omega) (by simp) hv0 ⟨rfl, rfl, Nat.le_add_right _ _⟩
      have kc : (putN kn (nc n) w.things.length).lookup (nc n) = some w.things.length := by rw [putN_lookup, if_pos rfl]
      obtain ⟨wx, d1, d2, d3, d4, d5⟩ := let_s (x := nx n) (t := RW :: x :: a) c5 (by omega) (by simp) (adr0_s (w := wc.tick) kc) ⟨rfl, rfl, Nat.le_add_right _ _⟩
      have kx : (putN (putN kn (nc n) w.things.length) (nx n) wc.things.length).lookup (nx n) = some wc.things.length := by rw [putN_lookup, if_pos rfl]
      obtain ⟨wi, ki, j, qj, f1, f2, f3, f4, f5, f6, f7, f8⟩ := cv_run wy hl n wx _ wc.things.length _ (by omega) d5 (by omega) kx (last_at d2)
      have hcell : wi.things[w.things.length]? = some ⟨nc n, RW :: a, v0⟩ := f3 _ _ ((Pre.push d2) _ _ (last_at c2))
      have hxi : wi.things[i]? = some q := f3 _ _ ((Pre.push d2) _ _ ((Pre.push c2) _ _ hq))
      have kx1 : ki.lookup (nx (n + 1)) = some i := by
        rw [f7 _ (nx_notin p ls n (n + 1) (by omega)), putN_lookup, if_neg hxx, putN_lookup, if_neg hxc1]; exact hi
      have kc1 : ki.lookup (nc n) = some w.things.length := by
        rw [f7 _ (nc_notin p ls n n (by omega)), putN_lookup, if_neg hcx]; exact kc
      obtain ⟨_, u1, u2⟩ := tick_b f2 (by omega)
      obtain ⟨w2, g1, g2⟩ := at1_s (w := wi.tick) (kn := ki) (q := qj) f4 f5 (by rw [f6]) (f2.ne j qj f5) (by omega) (by omega)
      obtain ⟨w3, g3, g4⟩ := val0_s (w := w2) kx1 (by rw [g2.things]; exact hxi) (f2.ne i q hxi) (by have := g2.few; omega) (by rw [g2.things]; omega)
      obtain ⟨wp, k1, k2, k3, k4, k5⟩ := put_s (x := ny n) f2 (by omega) g1 g2 g3 ⟨g4.things, g4.ex, by have := g4.few; omega⟩ hcell rfl
      have hlt : w.things.length < wi.things.length := (List.getElem?_eq_some_iff.mp hcell).1
      have hcell2 : wp.things[w.things.length]? = some ⟨nc n, RW :: a, q.val⟩ := by rw [k2, List.getElem?_set_self hlt]
      obtain ⟨_, v1, v2⟩ := tick_b k5 (by omega)
      obtain ⟨w4, m1, m2⟩ := val0_s (w := wp.tick) kc1 hcell2 (by simp) (by omega) (by omega)
      obtain ⟨wl, o1, o2, o3, o4, o5⟩ := let_s (x := ny (n + 1)) (t := RW :: a) k5 (by omega) (by simp) m1 ⟨m2.things, m2.ex, by have := m2.few; omega⟩
      have pre : Pre w wp := fun n2 q2 h2 => by
        have h3 := f3 _ _ ((Pre.push d2) _ _ ((Pre.push c2) _ _ h2))
        have : w.things.length ≠ n2 := fun z => by
          have := (List.getElem?_eq_some_iff.mp h2).1
          omega
        rw [k2, List.getElem?_set_ne this]; exact h3
      refine ⟨wl, _, wp.things.length, _, ?_, o5, pre.trans (Pre.push o2), by rw [putN_lookup, if_pos rfl], last_at o2, rfl, fun z hz => ?_, by omega⟩
      · rw [ec]
        exact ((Runs.cons c1 (Runs.one d1)).append f1).append (Runs.cons k1 (Runs.one o1))
      · rw [ec] at hz
        simp only [lets_append, lets, List.mem_append, List.mem_cons, List.not_mem_nil, or_false, not_or] at hz
        obtain ⟨⟨⟨z1, z2⟩, z3⟩, z4⟩ := hz
        rw [putN_lookup, if_neg z4, f7 z z3, putN_lookup, if_neg z2, putN_lookup, if_neg z1]
theorem br_run {p : List Rt × List Rt} {ls : List Bool} {l : Bool} (wy : Way p ls l) (hl : ls.length ≤ 10) : ∃ w kn, runW (brP p ls l) = .ok true w kn ∧ w.br ≠ [] := by
  obtain ⟨x, a, y, c, e1, e2, e3, e4⟩ := wy.last
  have b0 : Bd w0 [] := ⟨Nat.zero_le _, Nat.le_refl _, Nat.le_refl _, fun n q h => by simp [w0] at h⟩
  obtain ⟨v0, hv0⟩ := empty_s w0.tick [] a
  obtain ⟨wz, c1, c2, c3, c4, c5⟩ := let_s (x := [122]) (t := x :: a) b0 (by decide) (by simp) hv0 ⟨rfl, rfl, Nat.le_add_right _ _⟩
  have e0 : w0.things.length = 0 := rfl
  have ex0 : w0.ex = 0 := rfl
  rw [e0] at c1 c5
  have kz : (putN [] [122] 0).lookup [122] = some 0 := by rw [putN_lookup, if_pos rfl]
  obtain ⟨wx, d1, d2, d3, d4, d5⟩ := let_s (x := nx ls.length) (t := RW :: x :: a) c5 (by omega) (by simp) (adr0_s (w := wz.tick) kz) ⟨rfl, rfl, Nat.le_add_right _ _⟩
  have kx : (putN (putN [] [122] 0) (nx ls.length) wz.things.length).lookup (nx ls.length) = some wz.things.length := by rw [putN_lookup, if_pos rfl]
  obtain ⟨wi, ki, j, qj, f1, f2, f3, f4, f5, f6, f7, f8⟩ := cv_run wy hl ls.length wx _ wz.things.length _ (Nat.le_refl _) d5 (by omega) kx (last_at d2)
  have hz : wi.things[0]? = some ⟨[122], x :: a, v0⟩ := f3 _ _ ((Pre.push d2) _ _ (by have := last_at c2; rwa [e0] at this))
  obtain ⟨_, u1, u2⟩ := tick_b f2 (by omega)
  have start : Runs w0 [] ([.lt [122] (pairAt p ls ls.length).1 (emptyS (pairAt p ls ls.length).1.tail), .lt (nx ls.length) (RW :: (pairAt p ls ls.length).1) (.adr [122] 0)] ++ cvS p ls ls.length) wi ki := by
    rw [e1]; exact (Runs.cons c1 (Runs.one d1)).append f1
  obtain ⟨w1, g1, g2⟩ := at1_s (w := wi.tick) (kn := ki) (q := qj) f4 f5 (by rw [f6]) (f2.ne j qj f5) (by omega) (by omega)
  cases l with
  | true =>
    have hxr : x.r = false := e4
    have hread : w1.read 0 = some (v0, w1.brk true 0 false) := by
      have hf : w1.few = true := by unfold Wd.few; rw [g2.things]; have := g2.few; simp; omega
      unfold Wd.read
      rw [g2.things]
      show (match wi.things[0]? with | some q => _ | none => none) = _
      rw [hz]
      simp only [hf, if_true, hxr]
    have hlk : lookedUp wi.tick ki (.val (ny ls.length) 1) = some (some v0, w1.brk true 0 false) := by simp only [lookedUp, g1, hread]
    obtain ⟨wl, k1, k2, k3, k4, k5⟩ := let_s (x := [118]) (t := RW :: c) f2 (by omega) (by simp) hlk ⟨g2.things, g2.ex, by show (w1.br ++ [_]).length ≤ _; have := g2.few; simp; omega⟩
    refine ⟨wl, putN ki [118] wi.things.length, ?_, by rw [k4]; show w1.br ++ [_] ≠ []; simp⟩
    have : Runs w0 [] (brS p ls true) wl (putN ki [118] wi.things.length) := by
      unfold brS
      refine start.append ?_
      rw [e1]
      exact Runs.one k1
    exact this
  | false =>
    have hxw : x.w = false := e4
    obtain ⟨v1, hv1⟩ := empty_s w1 ki c
    obtain ⟨wl, k1, k2, k3, k4, k5⟩ := put_s (x := ny ls.length) (s := emptyS c) f2 (by omega) g1 g2 hv1 ⟨rfl, rfl, Nat.le_add_right _ _⟩ hz rfl
    refine ⟨wl, ki, ?_, by rw [k4, hxw]; show w1.br ++ [_] ≠ []; simp⟩
    have : Runs w0 [] (brS p ls false) wl ki := by
      unfold brS
      refine start.append ?_
      rw [e1]
      exact Runs.one k1
    exact this
end Pg
end

section
/-! is_bar -/
namespace Lw
open PySem Rx Pg
theorem in_l (x : Rt) (l : Bool) : inD (letD l) x.d = some (hasL x l) := by
  cases l <;> simp [letD, Rt.d, hasL]
theorem in_rw (l : Bool) : inSeq (letD l) [.str [114], .str [119]] = some true := by cases l <;> rfl
theorem let_r (l : Bool) : eqD (letD l) (.str [114]) = some l := by cases l <;> rfl
theorem truth_ty (a : List Rt) : (tyD a).truth = some (!a.isEmpty) := by cases a <;> rfl
theorem get_map3 {α β : Type} {f : α → β} {l : List α} {i : Nat} {d : β} (h : (l.map f)[i]? = some d) : ∃ s, l[i]? = some s ∧ f s = d := by
  rw [List.getElem?_map] at h
  exact Option.map_eq_some_iff.mp h
theorem drop_of_get3 {α : Type} {l : List α} {i : Nat} {x : α} (h : l[i]? = some x) : l.drop i = x :: l.drop (i + 1) := by
  obtain ⟨h1, rfl⟩ := List.getElem?_eq_some_iff.mp h
  exact List.drop_eq_getElem_cons h1
theorem is_bar_ok (a b : List Rt) (hl : a.length = b.length) (ls : List Bool) (l : Bool) : Ir.is_bar.fn [some (.fz (tyD a)), some (.fz (tyD b)), some (.fz (.lst (ls.map letD))), some (.fz (letD l))] = .ok (.fz (.bl (isBar a b ls l))) [none, none, none, none] := by
  simp [-R.bind, Ir.is_bar, fn_def]
  refine forGo_rule (P := fun r => endOf [false, false, false, false] r = .ok (.fz (.bl (isBar a b ls l))) [none, none, none, none]) (fun i e => ∃ a' b' s4, a'.length = b'.length ∧ isBar a b ls l = isBar a' b' (ls.drop i) l ∧ e = [some (.fz (tyD a')), some (.fz (tyD b')), some (.fz (.lst (ls.map letD))), some (.fz (letD l)), s4]) ⟨a, b, none, hl, rfl, rfl⟩ ?_ ?_
  · rintro i d e hd ⟨a, b, s4, hl, h, rfl⟩
    obtain ⟨s, hs, rfl⟩ := get_map3 hd
    rw [h, drop_of_get3 hs]
    refine ⟨_, rfl, ?_⟩
    match a, b, hl with
    | [], [], _ => simp [-R.bind, tyD, isBar]
    | x :: a, y :: b, hl =>
      simp [-R.bind, -inD_str, truth_ty, in_rw, head_ty, tail_ty, in_l, let_r, isBar, bindT, bindTs, pb_bind, pb_st, pb_sq, pb_lp]
      have hl2 : b.length = a.length := by simpa using hl.symm
      cases hasL y s <;> cases s <;> simp [-R.bind, hl2]
      · exact ⟨b, a, hl2, rfl, rfl, rfl⟩
      · exact ⟨a, b, hl2.symm, rfl, rfl, rfl⟩
  · rintro e ⟨a, b, s4, hl, h, rfl⟩
    rw [h]
    simp only [List.length_map, List.drop_length]
    match a, b, hl with
    | [], [], _ => simp [-R.bind, tyD, isBar]
    | x :: a, y :: b, _ =>
      simp [-R.bind, -inD_str, len_ty, in_rw, head_ty, in_l, isBar, pb_bind, pb_st, pb_sq, pb_end]
      cases hasL y l <;> rfl
end Lw
end

section
/-! breaking programs: the program makes them -/
namespace Pg
open PySem Rx Lw
theorem empty_ok (t : List Rt) : Ir._empty.fn [some (.fz (tyD t))] = .ok (.fz (srcD (emptyS t))) [none] := by
  cases t with
  | nil => simp [-R.bind, Ir._empty, fn_def, len_ty, emptyS, srcD]
  | cons x t =>
    have h : (0 : Int) < (t.length : Int) + 1 := by omega
    simp [-R.bind, Ir._empty, fn_def, len_ty, emptyS, srcD, h]
abbrev prD2 (q : List Rt × List Rt) : D := .tup [tyD q.1, tyD q.2]
theorem steps_ok (a b : List Rt) (ls : List Bool) (hl : ls.length ≤ 1000) : Ir._steps.fn [some (.fz (tyD a)), some (.fz (tyD b)), some (.fz (.lst (ls.map letD)))] = .ok (.fz (.lst ((List.range (ls.length + 1)).map fun i => prD2 (pairAt (a, b) ls i)))) [none, none, none] := by
  simp only [Ir._steps, fn_def]
  simp [-R.bind, -List.map_map]
  refine forGo_rule (P := fun r => endOf [false, false, false] r = .ok (.fz (.lst ((List.range (ls.length + 1)).map fun i => prD2 (pairAt (a, b) ls i)))) [none, none, none])
    (fun i e => ∃ s4, e = [some (.fz (tyD (pairAt (a, b) ls i).1)), some (.fz (tyD (pairAt (a, b) ls i).2)), some (.fz (.lst (ls.map letD))), some (.ml ((List.range (i + 1)).map fun i => prD2 (pairAt (a, b) ls i))), s4]) ⟨none, rfl⟩ ?_ ?_
  · rintro i d e hd ⟨s4, rfl⟩
    rw [List.getElem?_map] at hd
    obtain ⟨s, hs, rfl⟩ := Option.map_eq_some_iff.mp hd
    have hi := (List.getElem?_eq_some_iff.mp hs).1
    rw [pairAt_succ _ _ _ _ hs]
    have hL : (List.range (i + 1 + 1)).map (fun i => prD2 (pairAt (a, b) ls i)) = (List.range (i + 1)).map (fun i => prD2 (pairAt (a, b) ls i)) ++ [prD2 (stepP (pairAt (a, b) ls i) s)] := by
      rw [List.range_succ, List.map_append, List.map_cons, List.map_nil, pairAt_succ _ _ _ _ hs]
    rw [hL]
    have hlen : ((List.range (i + 1)).map fun i => prD2 (pairAt (a, b) ls i)).length = i + 1 := by simp
    generalize ((List.range (i + 1)).map fun i => prD2 (pairAt (a, b) ls i)) = L at *
    obtain ⟨u, v⟩ := pairAt (a, b) ls i
    have hz : L.length < sizeMax := by unfold sizeMax; omega
    refine ⟨_, rfl, ?_⟩
    cases s with
    | true => simp [-R.bind, -List.map_map, let_r, sl_tail, hz, stepP]
    | false => simp [-R.bind, -List.map_map, let_r, sl_tail, hz, stepP]
  · rintro e ⟨s4, rfl⟩
    simp [-R.bind, -List.map_map]
theorem add_rw (t : List Rt) (h : t.length ≤ 1000) : addD (.tup [.str [114, 119]]) (tyD t) = some (.fz (tyD (RW :: t))) := by
  show (if 1 + (t.map Rt.d).length ≤ sizeMax then _ else _) = _
  rw [if_pos (by rw [List.length_map]; unfold sizeMax; omega)]; rfl
theorem mark {n : Nat} (h : n < 6) : [97, 98, 99, 100, 101, 102][n]? = some (97 + n) := by
  have hc : n = 0 ∨ n = 1 ∨ n = 2 ∨ n = 3 ∨ n = 4 ∨ n = 5 := by omega
  rcases hc with rfl | rfl | rfl | rfl | rfl | rfl <;> rfl
theorem pair_len (p : List Rt × List Rt) (hp : p.1.length ≤ 100 ∧ p.2.length ≤ 100) (ls : List Bool) : ∀ i, (pairAt p ls i).1.length ≤ 100 ∧ (pairAt p ls i).2.length ≤ 100 := fun i => by
  unfold pairAt
  generalize ls.take i = m
  induction m generalizing p with
  | nil => exact hp
  | cons s m ih =>
    refine ih (stepP p s) ?_
    unfold stepP
    cases s <;> simp <;> omega
theorem cv_len (p : List Rt × List Rt) (ls : List Bool) : ∀ n, (cvS p ls n).length ≤ 4 * n + 1
  | 0 => Nat.le_refl _
  | n + 1 => by
    have := cv_len p ls n
    unfold cvS
    split <;> simp <;> omega
theorem converter_ok (p : List Rt × List Rt) (hp : p.1.length ≤ 100 ∧ p.2.length ≤ 100) (ls : List Bool) (hl : ls.length ≤ 5) : ∀ (m n : Nat), n < m → n ≤ ls.length →
    Ir._converterN m [some (.fz (.lst ((List.range (ls.length + 1)).map fun i => prD2 (pairAt p ls i)))), some (.fz (.lst (ls.map letD))), some (.fz (.int n))] = .ok (.fz (.lst ((cvS p ls n).map stD))) [none, none, none]
  | 0, n, h, _ => absurd h (by omega)
  | m + 1, n, hm, hn => by
    have hpn := pair_len p hp ls
    have gp : ∀ k, k ≤ ls.length → ((List.range (ls.length + 1)).map fun i => prD2 (pairAt p ls i))[k]? = some (prD2 (pairAt p ls k)) := fun k hk => by
      rw [List.getElem?_map, List.getElem?_range (by omega)]; rfl
    have gn := gp n hn
    have mk := mark (n := n) (by omega)
    unfold Ir._converterN
    simp only [Ir._converter, fn_def]
    cases n with
    | zero =>
      generalize ((List.range (ls.length + 1)).map fun i => prD2 (pairAt p ls i)) = PD at *
      have ha := add_rw p.2 (by omega)
      have gn : PD[0]? = some (.tup [tyD p.1, tyD p.2]) := gn
      simp [-R.bind, -List.map_map, gn, ha, sizeMax, cvS, stD, srcD, plD, ny, nx]
    | succ n =>
      have ih := converter_ok p hp ls hl m n (by omega) (by omega)
      have g0 := gp n (by omega)
      have mk0 := mark (n := n) (by omega)
      obtain ⟨b, hb⟩ : ∃ b, ls[n]? = some b := ⟨ls[n]'(by omega), List.getElem?_eq_getElem (by omega)⟩
      have hbl : (ls.map letD)[n]? = some (letD b) := by rw [List.getElem?_map, hb]; rfl
      have hcl := cv_len p ls n
      have hn1 : ¬ ((n : Int) + 1 = 0) := by omega
      have e1 : ((n : Int) + 1 - 1) = n := by omega
      have gni : getI ((List.range (ls.length + 1)).map fun i => prD2 (pairAt p ls i)) ((n : Int) + 1) = some (prD2 (pairAt p ls (n + 1))) := by
        have := getI_nat' ((List.range (ls.length + 1)).map fun i => prD2 (pairAt p ls i)) (n + 1)
        rw [gn] at this
        simpa using this
      have mki : getI [97, 98, 99, 100, 101, 102] ((n : Int) + 1) = some (97 + (n + 1)) := by
        have := getI_nat' [97, 98, 99, 100, 101, 102] (n + 1)
        rw [mk] at this
        simpa using this
      generalize ((List.range (ls.length + 1)).map fun i => prD2 (pairAt p ls i)) = PD at *
      obtain ⟨l1, l2⟩ := hpn n
      obtain ⟨l3, l4⟩ := hpn (n + 1)
      have ec : cvS p ls (n + 1) = if b then
          [.lt (nc n) (pairAt p ls n).1 (.val (nx (n + 1)) 0), .lt (nx n) (RW :: (pairAt p ls n).1) (.adr (nc n) 0)] ++ cvS p ls n ++ [.lt (ny (n + 1)) (RW :: (pairAt p ls (n + 1)).2) (.val (ny n) 1)]
        else
          [.lt (nc n) (RW :: (pairAt p ls n).1.tail) (emptyS (pairAt p ls n).1.tail), .lt (nx n) (RW :: (pairAt p ls n).1) (.adr (nc n) 0)] ++ cvS p ls n ++ [.pt (ny n) 1 (.val (nx (n + 1)) 0), .lt (ny (n + 1)) (RW :: (pairAt p ls (n + 1)).2) (.val (nc n) 0)] := by
        conv => lhs; unfold cvS
        rw [hb]; rfl
      rw [ec]
      generalize hcS : (cvS p ls n).map stD = CS at *
      have hCS : CS.length ≤ 4 * n + 1 := by rw [← hcS, List.length_map]; exact hcl
      clear hpn gp gn
      generalize pairAt p ls n = P0 at *
      generalize pairAt p ls (n + 1) = P1 at *
      obtain ⟨o1, o2⟩ := P0
      obtain ⟨t1, t2⟩ := P1
      dsimp only at l1 l2 l3 l4
      have a1 := add_rw o1 (by omega)
      have a2 := add_rw t2 (by omega)
      have a3 := add_rw o1.tail (by simp; omega)
      have hz1 : 2 + CS.length ≤ 16777216 := by omega
      have hz2 : CS.length + 1 + 1 + 1 ≤ 16777216 := by omega
      have hz3 : CS.length + 1 + 1 + 2 ≤ 16777216 := by omega
      cases b with
      | true =>
        simp [-R.bind, -List.map_map, -List.map_append, gni, mki, g0, mk0, e1, hn1, ih, hbl, let_r, a1, a2, sizeMax, hz1, hz2]
        simp [List.map_append, hcS, stD, srcD, plD, nx, ny, nc]
      | false =>
        simp [-R.bind, -List.map_map, -List.map_append, gni, mki, g0, mk0, e1, hn1, ih, hbl, let_r, a1, a2, a3, sl_tail, empty_ok, sizeMax, hz1, hz3]
        simp [List.map_append, hcS, stD, srcD, plD, nx, ny, nc]
end Pg
end

section
/-! breaking programs: they are programs -/
namespace Pg
open PySem Rx Lw
theorem isBar_len : ∀ (ls : List Bool) (a b : List Rt) (l : Bool), a.length = b.length → isBar a b ls l = true → ls.length < a.length
  | ls, [], [], l, _, h => by cases ls <;> simp [isBar] at h
  | [], x :: a, y :: b, l, hl, h => by simp
  | s :: ls, x :: a, y :: b, l, hl, h => by
    simp only [isBar, Bool.and_eq_true] at h
    have hl2 : a.length = b.length := by simpa using hl
    cases s with
    | true => have := isBar_len ls a b l hl2 h.2; simp; omega
    | false => have := isBar_len ls b a l hl2.symm h.2; simp; omega
theorem pair_len5 (p : List Rt × List Rt) (hp : p.1.length ≤ 5 ∧ p.2.length ≤ 5) (ls : List Bool) : ∀ i, (pairAt p ls i).1.length ≤ 5 ∧ (pairAt p ls i).2.length ≤ 5 := fun i => by
  unfold pairAt
  generalize ls.take i = m
  induction m generalizing p with
  | nil => exact hp
  | cons s m ih =>
    refine ih (stepP p s) ?_
    unfold stepP
    cases s <;> simp <;> omega
theorem name2 (c i : Nat) (h1 : 97 ≤ c) (h2 : c ≤ 122) (h : i ≤ 5) : nameOk [c, 97 + i] = true := by
  have hc : i = 0 ∨ i = 1 ∨ i = 2 ∨ i = 3 ∨ i = 4 ∨ i = 5 := by omega
  rcases hc with rfl | rfl | rfl | rfl | rfl | rfl <;> simp [nameOk, h1, h2]
theorem nxOk (i : Nat) (h : i ≤ 5) : nameOk (nx i) = true := name2 120 i (by omega) (by omega) h
theorem nyOk (i : Nat) (h : i ≤ 5) : nameOk (ny i) = true := name2 121 i (by omega) (by omega) h
theorem ncOk (i : Nat) (h : i ≤ 5) : nameOk (nc i) = true := name2 99 i (by omega) (by omega) h
theorem tyRW {t : List Rt} (h : t.length ≤ 5) : typeOk (RW :: t) = true := by simp [typeOk]; omega
theorem emptyOk (t : List Rt) : srcOk (emptyS t) = true := by unfold emptyS; split <;> rfl
theorem cv_ok {p : List Rt × List Rt} {ls : List Bool} {l : Bool} (wy : Way p ls l) (hp : p.1.length ≤ 5 ∧ p.2.length ≤ 5) (hl : ls.length ≤ 4) : ∀ n, n ≤ ls.length → ∀ s ∈ cvS p ls n, stOk s = true
  | 0, _, s, hs => by
    simp only [cvS, List.mem_singleton] at hs
    subst hs
    simp [stOk, srcOk, nyOk 0 (by omega), nxOk 0 (by omega), tyRW hp.2]
  | n + 1, hn, s, hs => by
    have ih := cv_ok wy hp hl n (by omega)
    obtain ⟨b, hb⟩ : ∃ b, ls[n]? = some b := ⟨ls[n]'(by omega), List.getElem?_eq_getElem (by omega)⟩
    obtain ⟨x, a, y, c, e1, e2, e3⟩ := wy.at_ n b hb
    obtain ⟨l1, l2⟩ := pair_len5 p hp ls n
    obtain ⟨l3, l4⟩ := pair_len5 p hp ls (n + 1)
    have y1 := nyOk n (by omega); have y2 := nyOk (n + 1) (by omega); have x1 := nxOk n (by omega); have x2 := nxOk (n + 1) (by omega); have c1 := ncOk n (by omega)
    have t1 := tyRW l1
    have t2 := tyRW l4
    have t3 : typeOk (RW :: (pairAt p ls n).1.tail) = true := tyRW (by simp; omega)
    have t4 : typeOk (pairAt p ls n).1 = true := by
      simp only [typeOk, Bool.and_eq_true, decide_eq_true_eq]
      exact ⟨by rw [e1]; simp, by omega⟩
    have em := emptyOk (pairAt p ls n).1.tail
    unfold cvS at hs
    split at hs
    · simp only [List.mem_append, List.mem_cons, List.not_mem_nil, or_false] at hs
      rcases hs with ((rfl | rfl) | hs) | rfl
      · simp [stOk, srcOk, c1, x2, t4]
      · simp [stOk, srcOk, c1, x1, t1]
      · exact ih s hs
      · simp [stOk, srcOk, y1, y2, t2]
    · simp only [List.mem_append, List.mem_cons, List.not_mem_nil, or_false] at hs
      rcases hs with ((rfl | rfl) | hs) | rfl | rfl
      · simp [stOk, c1, t3, em]
      · simp [stOk, srcOk, c1, x1, t1]
      · exact ih s hs
      · simp [stOk, srcOk, y1, x2]
      · simp [stOk, srcOk, y2, c1, t2]
theorem cv_nodup (p : List Rt × List Rt) (ls : List Bool) : ∀ n, (lets (cvS p ls n)).Nodup
  | 0 => by simp [cvS, lets]
  | n + 1 => by
    have ih := cv_nodup p ls n
    have e : lets (cvS p ls (n + 1)) = [nc n, nx n] ++ lets (cvS p ls n) ++ [ny (n + 1)] := by
      conv => lhs; unfold cvS
      split <;> simp only [lets_append, lets]
    rw [e]
    have hy : ny (n + 1) ∉ lets (cvS p ls n) := fun hx => by
      rcases cv_lets p ls n _ hx with ⟨i, h1, h2⟩ | ⟨i, h1, h2⟩ | ⟨i, h1, h2⟩ <;> simp [nx, ny, nc] at h2 <;> omega
    have h1 := nc_notin p ls n n (Nat.le_refl _)
    have h2 := nx_notin p ls n n (Nat.le_refl _)
    have d1 : ¬ nc n = nx n := by simp [nx, nc]
    have d2 : ¬ nc n = ny (n + 1) := by simp [ny, nc]
    have d3 : ¬ nx n = ny (n + 1) := by simp [nx, ny]
    refine List.nodup_append.mpr ⟨List.nodup_append.mpr ⟨by simp [d1], ih, fun a ha b hb z => ?_⟩, by simp, fun a ha b hb z => ?_⟩
    · subst z
      simp only [List.mem_cons, List.not_mem_nil, or_false] at ha
      rcases ha with rfl | rfl
      · exact h1 hb
      · exact h2 hb
    · rw [List.mem_singleton] at hb
      subst z hb
      simp only [List.mem_append, List.mem_cons, List.not_mem_nil, or_false] at ha
      rcases ha with (ha | ha) | ha
      · exact d2 ha.symm
      · exact d3 ha.symm
      · exact hy ha
theorem brP_ok {p : List Rt × List Rt} {ls : List Bool} {l : Bool} (wy : Way p ls l) (hp : p.1.length ≤ 5 ∧ p.2.length ≤ 5) (hl : ls.length ≤ 4) : Ok (brP p ls l) ∧ (namesOf (brP p ls l)).length ≤ 1000 := by
  obtain ⟨x, a, y, c, e1, e2, e3, e4⟩ := wy.last
  obtain ⟨l1, l2⟩ := pair_len5 p hp ls ls.length
  have hcl := cv_len p ls ls.length
  have hlen : (brS p ls l).length ≤ 40 := by unfold brS; simp; omega
  have hlets : lets (brS p ls l) = [[122], nx ls.length] ++ lets (cvS p ls ls.length) ++ (if l then [[118]] else []) := by
    unfold brS
    simp only [lets_append, lets]
    cases l <;> rfl
  have hn : namesOf (brP p ls l) = lets (brS p ls l) := rfl
  have hll : ∀ m : List St, (lets m).length ≤ m.length := fun m => by
    induction m with
    | nil => exact Nat.le_refl _
    | cons s m ih => cases s <;> simp [lets] <;> omega
  refine ⟨⟨Nat.zero_le _, fun f hf => (nomatch hf), hlen, fun s hs => ?_, ?_, fun i f hi => (by cases hi), ?_⟩, by rw [hn]; have := hll (brS p ls l); omega⟩
  · have hs : s ∈ brS p ls l := hs
    have ih := cv_ok wy hp hl ls.length (Nat.le_refl _)
    have t4 : typeOk (pairAt p ls ls.length).1 = true := by
      simp only [typeOk, Bool.and_eq_true, decide_eq_true_eq]
      exact ⟨by rw [e1]; simp, by omega⟩
    have t1 := tyRW l1
    have t5 : typeOk (RW :: (pairAt p ls ls.length).2.tail) = true := tyRW (by simp; omega)
    have em1 := emptyOk (pairAt p ls ls.length).1.tail
    have em2 := emptyOk (pairAt p ls ls.length).2.tail
    have x1 := nxOk ls.length (by omega); have y1 := nyOk ls.length (by omega)
    have nz : nameOk [122] = true := by decide
    have nv : nameOk [118] = true := by decide
    unfold brS at hs
    simp only [List.mem_append, List.mem_cons, List.not_mem_nil, or_false] at hs
    rcases hs with ((rfl | rfl) | hs) | rfl
    · simp [stOk, nz, t4, em1]
    · simp [stOk, srcOk, nz, x1, t1]
    · exact ih s hs
    · have em3 := em2
      unfold srcOk at em3
      cases l <;> simp [stOk, srcOk, y1, nv, t5, em3]
  · show ([] ++ namesOf (brP p ls l)).Nodup
    rw [hn, List.nil_append, hlets]
    have ih := cv_nodup p ls ls.length
    have hz : ([122] : Nm) ∉ lets (cvS p ls ls.length) := fun hx => by
      rcases cv_lets p ls _ _ hx with ⟨i, h1, h2⟩ | ⟨i, h1, h2⟩ | ⟨i, h1, h2⟩ <;> simp [nx, ny, nc] at h2
    have hv : ([118] : Nm) ∉ lets (cvS p ls ls.length) := fun hx => by
      rcases cv_lets p ls _ _ hx with ⟨i, h1, h2⟩ | ⟨i, h1, h2⟩ | ⟨i, h1, h2⟩ <;> simp [nx, ny, nc] at h2
    have hx := nx_notin p ls ls.length ls.length (Nat.le_refl _)
    refine List.nodup_append.mpr ⟨List.nodup_append.mpr ⟨by simp [nx], ih, fun a ha b hb z => ?_⟩, by cases l <;> simp, fun a ha b hb z => ?_⟩
    · subst z
      simp only [List.mem_cons, List.not_mem_nil, or_false] at ha
      rcases ha with rfl | rfl
      · exact hz hb
      · exact hx hb
    · cases l with
      | false => simp at hb
      | true =>
        have hb : b = [118] := by simpa using hb
        subst z hb
        simp only [List.mem_append, List.mem_cons, List.not_mem_nil, or_false] at ha
        rcases ha with (ha | ha) | ha
        · cases ha
        · simp [nx] at ha
        · exact hv ha
  · have : ∀ n, callsOk [] (cvS p ls n) = true := fun n => by
      induction n with
      | zero => rfl
      | succ n ih =>
        unfold callsOk at ih ⊢
        unfold cvS
        split <;> simp [List.all_append, ih, callOk]
    have h := this ls.length
    show callsOk [] (brS p ls l) = true
    unfold callsOk at h ⊢
    unfold brS
    simp only [List.all_append, h]
    cases l <;> rfl
theorem view_pr (p : Prg) : OT.view (prO p) = prD p := rfl
set_option maxHeartbeats 1000000 in
theorem breaking_ok (a b : List Rt) (hl : a.length = b.length) (h5 : a.length ≤ 5) : Ir.breaking.fn [some (.fz (tyD a)), some (.fz (tyD b))] = .ok (.fz (match find a b with
    | none => .non
    | some (ls, l) => prD (brP (a, b) ls l))) [none, none] := by
  have hf := find_ok 10 a b hl (by omega) (by omega)
  have hbar : Ir.bar.fn [some (.fz (tyD a)), some (.fz (tyD b))] = .ok (.fz (foundD (find a b))) [none, none] := by
    simp [-R.bind, Ir.bar, fn_def, hf]
  simp only [Ir.breaking, fn_def]
  cases hfd : find a b with
  | none =>
    rw [hfd] at hbar
    simp [-R.bind, hbar, foundD, isD]
  | some q =>
    obtain ⟨ls, l⟩ := q
    rw [hfd] at hbar
    have hib := find_bar a b ls l hfd
    have hll := isBar_len ls a b l hl hib
    have wy := way_of ls a b l hl hib
    obtain ⟨hok, hns⟩ := brP_ok wy ⟨h5, by show b.length ≤ 5; omega⟩ (by omega)
    have hpi := program_init (brP (a, b) ls l) hok hns
    have q1 : (brP (a, b) ls l).funs = [] := rfl
    have q2 : (brP (a, b) ls l).stmts = brS (a, b) ls l := rfl
    rw [q1, q2, List.map_nil] at hpi
    have hvw : OT.view (prO (brP (a, b) ls l)) = prD (brP (a, b) ls l) := view_pr _
    have hst := steps_ok a b ls (by omega)
    have hcv := converter_ok (a, b) ⟨by show a.length ≤ 100; omega, by show b.length ≤ 100; omega⟩ ls (by omega) 10 ls.length (by omega) (Nat.le_refl _)
    have hgp : ((List.range (ls.length + 1)).map fun i => prD2 (pairAt (a, b) ls i))[ls.length]? = some (prD2 (pairAt (a, b) ls ls.length)) := by
      rw [List.getElem?_map, List.getElem?_range (by omega)]; rfl
    have mk := mark (n := ls.length) (by omega)
    have hlen : lenD [.lst (ls.map letD)] = some (.fz (.int ls.length)) := by simp
    have hcl := cv_len (a, b) ls ls.length
    obtain ⟨l1, l2⟩ := pair_len5 (a, b) ⟨h5, by show b.length ≤ 5; omega⟩ ls ls.length
    have eb : (brS (a, b) ls l).map stD = [stD (.lt [122] (pairAt (a, b) ls ls.length).1 (emptyS (pairAt (a, b) ls ls.length).1.tail)), stD (.lt (nx ls.length) (RW :: (pairAt (a, b) ls ls.length).1) (.adr [122] 0))] ++ (cvS (a, b) ls ls.length).map stD ++ [stD (if l then .lt [118] (RW :: (pairAt (a, b) ls ls.length).2.tail) (.val (ny ls.length) 1) else .pt (ny ls.length) 1 (emptyS (pairAt (a, b) ls ls.length).2.tail))] := by
      unfold brS; simp
    rw [eb] at hpi
    generalize hcS : (cvS (a, b) ls ls.length).map stD = CS at *
    have hCS : CS.length ≤ 30 := by rw [← hcS, List.length_map]; omega
    generalize ((List.range (ls.length + 1)).map fun i => prD2 (pairAt (a, b) ls i)) = PD at *
    generalize pairAt (a, b) ls ls.length = P0 at *
    obtain ⟨o1, o2⟩ := P0
    dsimp only at *
    have hfo : foundD (some (ls, l)) = .tup [.lst (ls.map letD), letD l] := rfl
    rw [hfo] at hbar
    generalize ls.map letD = lsD at *
    generalize prO (brP (a, b) ls l) = pO at *
    generalize prD (brP (a, b) ls l) = pDd at *
    have a1 := add_rw o1 (by omega)
    have a3 := add_rw o2.tail (by simp; omega)
    have hz1 : 2 + CS.length ≤ 16777216 := by omega
    have hz2 : CS.length + 1 + 1 < 16777216 := by omega
    have hw : eqD (letD l) (.str [119]) = some (!l) := by cases l <;> rfl
    cases l with
    | true =>
      have hpi2 : Ir.Program___init__.fn [some (.ins "Program" []), some (.fz (.lst [])), some (.fz (.lst (.tup [.str [108, 101, 116], .str [122], tyD o1, srcD (emptyS o1.tail)] :: .tup [.str [108, 101, 116], .str [120, 97 + ls.length], tyD (RW :: o1), .tup [.str [97, 100, 100, 114, 101, 115, 115], .tup [.str [122], .int 0]]] :: (CS ++ [.tup [.str [108, 101, 116], .str [118], tyD (RW :: o2.tail), .tup [.str [118, 97, 108, 117, 101], .tup [.str [121, 97 + ls.length], .int 1]]]]))))] = .ok (.fz .non) [some pO, none, none] := hpi
      simp [-R.bind, -List.map_map, -List.map_append, hbar, isD, hst, hlen, mk, hgp, sl_tail, empty_ok, a1, a3, hcv, extO, sizeMax, hz1, hz2, hw, hpi2, hvw]
    | false =>
      have hpi2 : Ir.Program___init__.fn [some (.ins "Program" []), some (.fz (.lst [])), some (.fz (.lst (.tup [.str [108, 101, 116], .str [122], tyD o1, srcD (emptyS o1.tail)] :: .tup [.str [108, 101, 116], .str [120, 97 + ls.length], tyD (RW :: o1), .tup [.str [97, 100, 100, 114, 101, 115, 115], .tup [.str [122], .int 0]]] :: (CS ++ [.tup [.str [112, 117, 116], .tup [.str [121, 97 + ls.length], .int 1], srcD (emptyS o2.tail)]]))))] = .ok (.fz .non) [some pO, none, none] := hpi
      simp [-R.bind, -List.map_map, -List.map_append, hbar, isD, hst, hlen, mk, hgp, sl_tail, empty_ok, a1, a3, hcv, extO, sizeMax, hz1, hz2, hw, hpi2, hvw]
end Pg
end

section
/-! what is breaking; pairs of types -/
namespace Pg
open PySem Rx Lw
theorem run_tryC (body : List IS) (c : Str) (x : IE) (e : Ev) : run1 (.tryC body c x) e = tryS c (fun _ e1 => (noX ((sem x).1 e1)).st fun t e2 => .ret t e2) (run body e) := rfl
noncomputable def breakF (a b : List Rt) (p : Prg) : Bool := decide (faultsF p [(a, b)] = []) && match runW p with
  | .ok _ w _ => decide (0 < w.br.length)
  | _ => false
theorem is_breaking_ok (a b : List Rt) {p : Prg} (h : Ok p) : Ir.is_breaking.fn [some (.fz (tyD a)), some (.fz (tyD b)), some (.fz (prD p))] = .ok (.fz (.bl (breakF a b p))) [none, none, none] := by
  have hl := is_let_by_ok p h [(a, b)]
  have hl : Ir.is_let_by.fn [some (.fz (prD p)), some (.fz (.lst [.tup [tyD a, tyD b]]))] = .ok (.fz (.bl (decide (faultsF p [(a, b)] = [])))) [none, none] := hl
  simp only [Ir.is_breaking, fn_def]
  unfold breakF
  by_cases hf : faultsF p [(a, b)] = []
  · have hg := run_fine h hf
    have hr := run_ok p h [(a, b)] hf hg
    have hr : Ir.run.fn [some (.fz (prD p)), some (.fz (.lst [.tup [tyD a, tyD b]]))] = _ := hr
    rw [decide_eq_true hf] at hl
    rw [decide_eq_true hf]
    generalize prD p = pd at *
    cases hw : runW p with
    | bad => exact absurd hw hg
    | long w kn =>
      rw [hw] at hr
      simp [-R.bind, -List.map_map, hl, hr, tooLong, run_tryC, tryS]
    | ok e w kn =>
      rw [hw] at hr
      dsimp only at hr ⊢
      have e1 : w.br.length = (w.br.map brD).length := by simp
      rw [e1]
      generalize w.br.map brD = brs at *
      generalize w.things.map thD = ths at *
      generalize endD e = ed at *
      simp [-R.bind, -List.map_map, hl, hr, run_tryC, tryS]
  · rw [decide_eq_false hf] at hl
    rw [decide_eq_false hf]
    generalize prD p = pd at *
    simp [-R.bind, -List.map_map, hl]
theorem break_conv {a b : List Rt} (hc : conv a b = true) {p : Prg} (h : Ok p) : breakF a b p = false := by
  unfold breakF
  by_cases hf : faultsF p [(a, b)] = []
  · cases hw : runW p with
    | bad => simp
    | long w kn => simp
    | ok e w kn =>
      have hb := run_safe h (ex := [(a, b)]) (by
        intro q hq _
        rw [List.mem_singleton] at hq
        subst hq; exact hc) hf hw
      simp [hb]
  · simp [hf]
theorem break_br {p : List Rt × List Rt} {ls : List Bool} {l : Bool} (wy : Way p ls l) (hl : ls.length ≤ 10) : breakF p.1 p.2 (brP p ls l) = true := by
  obtain ⟨w, kn, h1, h2⟩ := br_run wy hl
  have hf : faultsF (brP p ls l) [(p.1, p.2)] = [] := br_fl wy (by
    unfold convF
    rw [if_neg (by simp [wy.len])]
    simp)
  unfold breakF
  rw [h1, decide_eq_true hf]
  have : 0 < w.br.length := List.length_pos_iff.mpr h2
  simp [this]
end Pg
namespace Lw
open PySem Rx Pg
theorem pair_ok (row : List Nat) (k m : Nat) (hm : m ≤ 1000) : ∃ (one two : List Rt) (k' : Nat), Ir._law_pair.fn [some (box row k), some (.fz (.int m))] = .ok (.fz (.lst [tyD one, tyD two])) [some (box row k'), none] ∧ one.length = two.length ∧ one.length ≤ m := by
  have h1 := drawn_lt row k (m := m + 1) (by omega)
  have d1 := draw_okI row k ((m : Int) + 1) (by omega)
  rw [show ((m : Int) + 1).toNat = m + 1 by omega] at d1
  generalize drawn row k (m + 1) = n at *
  have r1 := rights_ok row (k + 1) n (by omega) (by omega)
  have r2 := rights_ok row (k + 1 + n) n (by omega) (by omega)
  rw [show ((n : Int)).toNat = n by omega] at r1 r2
  have h2 := drawn_lt row (k + 1 + n + n) (m := 2) (by omega)
  have d2 := draw_okI row (k + 1 + n + n) 2 (by omega)
  rw [show ((2 : Int)).toNat = 2 by omega] at d2
  generalize ha : RS row (k + 1) n = a at *
  generalize hb : RS row (k + 1 + n) n = b at *
  have la : a.length = n := by rw [← ha]; simp
  have lb : b.length = n := by rw [← hb]; simp
  generalize hz : drawn row (k + 1 + n + n) 2 = z at *
  simp only [Ir._law_pair, fn_def]
  by_cases z0 : z = 0
  · subst z0
    let c : Nat → Rt := fun i => if drawn row (k + 1 + n + n + 1 + i) 3 = 0 then b.getD i ⟨false, false⟩ else a.getD i ⟨false, false⟩
    refine ⟨a, (List.range n).map c, k + 1 + n + n + 1 + n, ?_, by simp [la], by omega⟩
    simp [-R.bind, -List.map_map, d1, r1, r2, d2, rngO_nat (show n ≤ 8000000 by omega)]
    refine lcY (P := fun r => endOf [true, false] (SR.sq (run [IS.ret (IE.lst [IE.var 3, IE.var 4]).fzz]) r) = .ok (.fz (.lst [tyD a, tyD ((List.range n).map c)])) [some (box row (k + 1 + n + n + 1 + n)), none])
      (fun i acc e => acc = ((List.range i).map c).map Rt.d ∧ ∃ s5, e = [some (box row (k + 1 + n + n + 1 + i)), some (.fz (.int m)), some (.fz (.int n)), some (.fz (tyD a)), some (.fz (tyD b)), s5]) rfl ⟨rfl, _, rfl⟩ ?_ ?_
    · rintro i d acc e hd ⟨rfl, s5, rfl⟩
      simp [-R.bind] at hd
      obtain ⟨hi, rfl⟩ := hd
      have d3 := draw_okI row (k + 1 + n + n + 1 + i) 3 (by omega)
      rw [show ((3 : Int)).toNat = 3 by omega] at d3
      have h3 := drawn_lt row (k + 1 + n + n + 1 + i) (m := 3) (by omega)
      have ga : a[i]? = some (a.getD i ⟨false, false⟩) := by
        rw [List.getD_eq_getElem?_getD, List.getElem?_eq_getElem (by omega)]; rfl
      have gb : b[i]? = some (b.getD i ⟨false, false⟩) := by
        rw [List.getD_eq_getElem?_getD, List.getElem?_eq_getElem (by omega)]; rfl
      have hc : c i = if drawn row (k + 1 + n + n + 1 + i) 3 = 0 then b.getD i ⟨false, false⟩ else a.getD i ⟨false, false⟩ := rfl
      rw [List.range_succ, List.map_append, List.map_append, List.map_cons, List.map_nil, List.map_cons, List.map_nil]
      generalize c i = ci at *
      generalize ((List.range i).map c).map Rt.d = acc at *
      generalize drawn row (k + 1 + n + n + 1 + i) 3 = q at *
      rw [show k + 1 + n + n + 1 + (i + 1) = k + 1 + n + n + 1 + i + 1 from rfl]
      clear_value c
      generalize k + 1 + n + n + 1 + i = K at *
      generalize a.getD i ⟨false, false⟩ = x at *
      generalize b.getD i ⟨false, false⟩ = y at *
      by_cases hq : q = 0
      · subst hq
        rw [if_pos rfl] at hc
        subst hc
        simp [-R.bind, -List.map_map, d3, tyD, ga, gb]
      · rw [if_neg hq] at hc
        subst hc
        have hq2 : 0 < q := by omega
        simp [-R.bind, -List.map_map, d3, tyD, ga, gb, hq2]
    · rintro acc e' ⟨rfl, s5, rfl⟩
      simp [-R.bind, -List.map_map, tyD]
  · have z1 : z = 1 := by omega
    subst z1
    refine ⟨a, b, k + 1 + n + n + 1, ?_, by omega, by omega⟩
    simp [-R.bind, -List.map_map, d1, r1, r2, d2]
end Lw
end

section
namespace K81
open PySem Rx Lw Pg
theorem src81 (row : List Nat) : ∃ bl : Nat → List OT, (∀ k, box row k = .lst (bl k)) ∧
    (∀ k, ∃ (one two : List Rt) (k' : Nat), Ir._law_pair.fn [some (.lst (bl k)), some (.fz (.int 5))] = .ok (.fz (.lst [tyD one, tyD two])) [some (.lst (bl k')), none] ∧ one.length = two.length ∧ one.length ≤ 5) ∧
    (∀ k (n : Nat), n ≤ 5 → ∃ (t : List Rt) (k' : Nat), Ir._law_rights.fn [some (.lst (bl k)), some (.fz (.int n))] = .ok (.fz (tyD t)) [some (.lst (bl k')), none] ∧ t.length = n) :=
  ⟨fun k => [.fz (.lst (row.map intD)), .fz (intD k)], fun _ => rfl, fun k => pair_ok row k 5 (by omega), fun k n h => ⟨_, _, rights_ok row k n (by omega) (by omega), by simp⟩⟩
theorem Lp_mono {P : SR → Prop} {k : Ev → SR} {I J : Ev → Prop} {r : SR} (h : ∀ e, I e → J e) (hr : Lp P k I r) : Lp P k J r := by
  cases r <;> first | exact h _ hr | exact hr
theorem forGo_in {P : SR → Prop} {k k2 : Ev → SR} {J : Ev → Prop} {tg : TGt} {body : Ev → SR} {xs : List D} {e : Ev} (I : Nat → Ev → Prop) (h0 : I 0 e)
    (step : ∀ i d e, xs[i]? = some d → I i e → ∃ e1, bindT tg d e = some e1 ∧ Lp (Lp P k J) k2 (I (i + 1)) (body e1)) (fin : ∀ e', I xs.length e' → Lp P k J (k2 e')) : Lp P k J ((forGo tg body xs e).sq k2) :=
  forGo_rule (P := Lp P k J) I h0 step fin
theorem cut3 {α : Type} (xs : List α) : ∃ m, cut xs (some (-3)) none = xs.drop m := by
  refine ⟨bnd xs.length 0 (some (-3)), ?_⟩
  unfold cut
  rw [show bnd xs.length xs.length none = xs.length from rfl, List.take_length]
theorem iD_nn : isD .non .non = some true := rfl
theorem iD_tn (xs : List D) : isD (.tup xs) .non = some false := rfl
theorem nD_nn : nisD .non .non = some false := rfl
theorem nD_bb (a b : Bool) : nisD (.bl a) (.bl b) = some (a != b) := by cases a <;> cases b <;> rfl
theorem ne_bb (a b : Bool) : neD (.bl a) (.bl b) = some (a != b) := by cases a <;> cases b <;> rfl
set_option maxHeartbeats 8000000 in
theorem law_ok (ns : List Int) (hl : ns.length ≤ 63) (hb : ∀ z ∈ ns, Builtin.Int.intBits z ≤ 1048576) : ∃ o, Ir.law.fn [some (.fz (.lk (ns.map D.int)))] = .ok (.fz (.bl true)) o := by
  obtain ⟨row, hrow⟩ : ∃ row : List Nat, Ir._law_row.fn [some (.fz (.lk (ns.map D.int))), some (.fz (.int 0)), some (.fz (.int 50))] = .ok (.fz (.lst (row.map intD))) [none, none, none] := row_ok ns 50 (by omega)
  obtain ⟨bl, hbl, hpair, hrights⟩ := src81 row
  have hb0 : OT.lst [.fz (.lst (row.map intD)), .fz (.int 0)] = .lst (bl 0) := (hbl 0)
  generalize D.lk (ns.map D.int) = lk at *
  have hr10 : rngO 0 10 = some (rngD 0 10) := rfl
  simp only [Ir.law, fn_def]
  simp [-R.bind, -List.map_map, hrow, hr10]
  rw [hb0]
  refine forGo_rule (P := fun r => ∃ o, endOf [false] r = .ok (.fz (.bl true)) o) (fun i e => ∃ (k : Nat) (ps : List Prg) (s3 s4 s5 s6 s7 s8 s9 s10 : Slot), (∀ p ∈ ps, Ok p) ∧ ps.length ≤ i ∧ e = [some (.fz lk), some (.lst (bl k)), some (.ml (ps.map prD)), s3, s4, s5, s6, s7, s8, s9, s10]) ⟨0, [], _, _, _, _, _, _, _, _, fun _ h => (nomatch h), Nat.le_refl _, rfl⟩ ?_ ?_
  · rintro i d e hd ⟨k, ps, s3, s4, s5, s6, s7, s8, s9, s10, hps, hpl, rfl⟩
    have hi : i < 10 := by
      have := (List.getElem?_eq_some_iff.mp hd).1
      simpa using this
    refine ⟨_, rfl, ?_⟩
    obtain ⟨one, two, k1, hp, hlen, h5⟩ := hpair k
    have hconv := converts_ok one two (by omega)
    rw [decide_eq_true hlen, Bool.true_and] at hconv
    have hbreak := breaking_ok one two hlen h5
    have hbar : Ir.bar.fn [some (.fz (tyD one)), some (.fz (tyD two))] = .ok (.fz (foundD (find one two))) [none, none] := by
      have hf := find_ok 10 one two hlen (by omega) (by omega)
      simp [-R.bind, Ir.bar, fn_def, hf]
    have hcf := conv_find one two hlen
    cases hfd : find one two with
    | some q =>
      obtain ⟨ls, l⟩ := q
      have hcv : conv one two = false := by
        cases h : conv one two with
        | false => rfl
        | true => rw [hcf.mpr h] at hfd; cases hfd
      rw [hcv] at hconv
      rw [hfd] at hbreak hbar
      dsimp only at hbreak
      have hib := find_bar one two ls l hfd
      have hll := isBar_len ls one two l hlen hib
      have wy := way_of ls one two l hlen hib
      have hok := (brP_ok wy ⟨h5, by show two.length ≤ 5; omega⟩ (by omega)).1
      have hisb := is_breaking_ok one two hok
      rw [show breakF one two (brP (one, two) ls l) = true from break_br wy (by omega)] at hisb
      have hisbar := is_bar_ok one two hlen ls l
      rw [hib] at hisbar
      have hfo : foundD (some (ls, l)) = .tup [.lst (ls.map letD), letD l] := rfl
      rw [hfo] at hbar
      have hz : (ps.map prD).length < sizeMax := by rw [List.length_map]; unfold sizeMax; omega
      have hni : isD (prD (brP (one, two) ls l)) .non = some false := rfl
      have hni2 : nisD (prD (brP (one, two) ls l)) .non = some true := rfl
      have hap : (ps ++ [brP (one, two) ls l]).map prD = ps.map prD ++ [prD (brP (one, two) ls l)] := by
        rw [List.map_append, List.map_cons, List.map_nil]
      have hmem : ∀ p ∈ ps ++ [brP (one, two) ls l], Ok p := by
        intro p hp
        rcases List.mem_append.mp hp with h | h
        · exact hps p h
        · rw [List.mem_singleton.mp h]; exact hok
      have hlen2 : (ps ++ [brP (one, two) ls l]).length ≤ i + 1 := by simp; omega
      generalize ps ++ [brP (one, two) ls l] = ps2 at *
      generalize prD (brP (one, two) ls l) = made at *
      generalize ps.map prD = pds at *
      generalize ls.map letD = lsD at *
      generalize letD l = lD at *
      generalize tyD one = od at *
      generalize tyD two = td at *
      simp [-R.bind, -List.map_map, hp, hconv, hbreak, hbar, hisb, hisbar, hni, hni2, hz, iD_nn, iD_tn, nD_nn, nD_bb, ne_bb]
      refine ⟨k1, ps2, hmem, hlen2, ?_⟩
      simp [hap]
    | none =>
      have hcv : conv one two = true := hcf.mp hfd
      rw [hcv] at hconv
      rw [hfd] at hbreak hbar
      dsimp only at hbreak
      have hfo : foundD none = .non := rfl
      rw [hfo] at hbar
      have hnb : ∀ p ∈ ps, Ir.is_breaking.fn [some (.fz (tyD one)), some (.fz (tyD two)), some (.fz (prD p))] = .ok (.fz (.bl false)) [none, none, none] := fun p hp => by
        rw [is_breaking_ok one two (hps p hp), break_conv hcv (hps p hp)]
      obtain ⟨three, k2, hr, hl3⟩ := hrights k1 one.length (by omega)
      have c1 := converts_ok three one (by omega)
      have c2 := converts_ok three two (by omega)
      have c3 := converts_ok two three (by omega)
      have c4 := converts_ok one three (by omega)
      rw [decide_eq_true (by omega), Bool.true_and] at c1 c2 c3 c4
      have t1 : conv three one = true → conv three two = true := fun h => conv_trans' three one two (by omega) hlen h hcv
      have t2 : conv two three = true → conv one three = true := fun h => conv_trans' one two three hlen (by omega) hcv h
      have hlo : lenD [tyD one] = some (.fz (.int one.length)) := len_ty one
      have hnb : ∀ d ∈ ps.map prD, Ir.is_breaking.fn [some (.fz (tyD one)), some (.fz (tyD two)), some (.fz d)] = .ok (.fz (.bl false)) [none, none, none] := fun d hd => by
        obtain ⟨p, hp, rfl⟩ := List.mem_map.mp hd
        exact hnb p hp
      refine Lp_mono (I := fun e => ∃ s3 s4 s5 s6 s7 s8 s9 s10, e = [some (.fz lk), some (.lst (bl k2)), some (.ml (ps.map prD)), s3, s4, s5, s6, s7, s8, s9, s10]) (fun e ⟨s3, s4, s5, s6, s7, s8, s9, s10, h⟩ => ⟨k2, ps, s3, s4, s5, s6, s7, s8, s9, s10, hps, by omega, h⟩) ?_
      clear hps hpl hcf hfd hcv hfo hrights hpair hbl hb0 hb
      generalize conv three one = b1 at *
      generalize conv three two = b2 at *
      generalize conv two three = b3 at *
      generalize conv one three = b4 at *
      generalize ps.map prD = pds at *
      generalize tyD one = od at *
      generalize tyD two = td at *
      generalize tyD three = hd at *
      obtain ⟨m3, hm3⟩ := cut3 pds
      have hsl : slD (.lst pds) (some (-3)) none = some (.ml (pds.drop m3)) := by
        rw [← hm3]; rfl
      have hvd : OT.views ((pds.map OT.fz).drop m3) = pds.drop m3 := by rw [← List.map_drop, views_map]
      have hneg : negD (.int 3) = some (.int (-3)) := rfl
      simp [-R.bind, -List.map_map, hp, hconv, hbreak, hbar, iD_nn, iD_tn, nD_nn, nD_bb, ne_bb, hsl, hneg, hvd]
      refine forGo_in (fun j e => ∃ s9, e = [some (.fz lk), some (.lst (bl k1)), some (.ml pds), some (.fz d), some (.fz (.bl true)), some (.fz .non), some (.fz .non), some (.fz od), some (.fz td), s9, s10]) ⟨s9, rfl⟩ ?_ ?_
      · rintro j q e hq ⟨s9, rfl⟩
        refine ⟨_, rfl, ?_⟩
        have hm := List.mem_of_mem_drop (List.mem_of_getElem? hq)
        simp [-R.bind, -List.map_map, hnb q hm, nD_bb]
      · rintro e ⟨s9, rfl⟩
        cases b1 <;> cases b3 <;> simp at t1 t2 <;> simp [-R.bind, -List.map_map, hr, hlo, c1, c2, c3, c4, t1, t2]
  · rintro e ⟨k, ps, s3, s4, s5, s6, s7, s8, s9, s10, hps, hpl, rfl⟩
    simp [-R.bind, -List.map_map]
end K81
end

section
namespace K81
open PySem PySem.Spec PyProof.Rows L2 Rx
def topS (i : Nat) : Stmt := PySem.Challenge.pw_rightskept_k81_whole_exact_rule.main.body.getD i (.Pass ⟨0, 0, 0, 0⟩)
abbrev S__law_cell : Stmt := topS 72
abbrev S__law_row : Stmt := topS 73
abbrev S__law_draw : Stmt := topS 74
abbrev S__law_right : Stmt := topS 75
abbrev S__law_rights : Stmt := topS 76
abbrev S__law_pair : Stmt := topS 77
abbrev S__find : Stmt := topS 9
abbrev S_converts : Stmt := topS 8
abbrev S_bar : Stmt := topS 10
abbrev S__steps : Stmt := topS 67
abbrev S__copied : Stmt := topS 24
abbrev S_copied : Stmt := topS 23
abbrev S_Function___init__ : Stmt := (C8.clsBody (topS 30)).getD 0 (.Pass ⟨0, 0, 0, 0⟩)
abbrev S__are_calls : Stmt := topS 36
abbrev S_is_name : Stmt := topS 19
abbrev S_is_right : Stmt := topS 5
abbrev S_is_value_type : Stmt := topS 6
abbrev S_is_type : Stmt := topS 7
abbrev S_is_number : Stmt := topS 18
abbrev S_is_depth : Stmt := topS 31
abbrev S_is_place : Stmt := topS 20
abbrev S_is_source : Stmt := topS 21
abbrev S_is_statement : Stmt := topS 22
abbrev S__is_block : Stmt := topS 33
abbrev S__made : Stmt := topS 35
abbrev S_names_of : Stmt := topS 38
abbrev S__is_parameter : Stmt := topS 32
abbrev S__is_function : Stmt := topS 34
abbrev S__is_program : Stmt := topS 37
abbrev S_Program___init__ : Stmt := (C8.clsBody (topS 39)).getD 0 (.Pass ⟨0, 0, 0, 0⟩)
abbrev S__empty : Stmt := topS 66
abbrev S__converter : Stmt := topS 68
abbrev S_breaking : Stmt := topS 69
abbrev S_function_of : Stmt := topS 40
abbrev S_place_fault : Stmt := topS 42
abbrev S_seen_type : Stmt := topS 43
abbrev S__conversion_fault : Stmt := topS 44
abbrev S_source_fault : Stmt := topS 45
abbrev S__put_fault : Stmt := topS 46
abbrev S_statement_fault : Stmt := topS 47
abbrev S_block_faults : Stmt := topS 48
abbrev S_faults : Stmt := topS 49
abbrev S_is_let_by : Stmt := topS 50
abbrev S_World___init__ : Stmt := (C8.clsBody (topS 54)).getD 0 (.Pass ⟨0, 0, 0, 0⟩)
abbrev S_World_read : Stmt := (C8.clsBody (topS 54)).getD 3 (.Pass ⟨0, 0, 0, 0⟩)
abbrev S__thing_at : Stmt := topS 55
abbrev S__looked_up : Stmt := topS 56
abbrev S__all_looked_up : Stmt := topS 57
abbrev S_Thing___init__ : Stmt := (C8.clsBody (topS 53)).getD 0 (.Pass ⟨0, 0, 0, 0⟩)
abbrev S_World_make : Stmt := (C8.clsBody (topS 54)).getD 2 (.Pass ⟨0, 0, 0, 0⟩)
abbrev S_World_write : Stmt := (C8.clsBody (topS 54)).getD 4 (.Pass ⟨0, 0, 0, 0⟩)
abbrev S__put : Stmt := topS 59
abbrev S_act_all : Stmt := topS 61
abbrev S__call : Stmt := topS 58
abbrev S_act : Stmt := topS 60
abbrev S_shown_things : Stmt := topS 62
abbrev S_run : Stmt := topS 64
abbrev S_is_breaking : Stmt := topS 70
abbrev S_is_bar : Stmt := topS 11
abbrev S_law : Stmt := topS 78
structure En (P : Program) (w : World) (K : PySem.W.Frag) (mg : Str → Option Value) (base : Heap) : Prop where
  z_abs : mg "abs" = none
  z_all : mg "all" = none
  z_bool : mg "bool" = none
  z_enumerate : mg "enumerate" = none
  z_int : mg "int" = none
  z_isinstance : mg "isinstance" = none
  z_len : mg "len" = none
  z_list : mg "list" = none
  z_range : mg "range" = none
  z_str : mg "str" = none
  z_tuple : mg "tuple" = none
  z_zip : mg "zip" = none
  g_LETTERS : ∃ u v, mg "LETTERS" = some u ∧ RelV v u ∧ ∀ F, DR K mg F v Gv.LETTERS
  g_LONGEST_NAME : ∃ u v, mg "LONGEST_NAME" = some u ∧ RelV v u ∧ ∀ F, DR K mg F v Gv.LONGEST_NAME
  g_MOST_BODY : ∃ u v, mg "MOST_BODY" = some u ∧ RelV v u ∧ ∀ F, DR K mg F v Gv.MOST_BODY
  g_MOST_DEPTH : ∃ u v, mg "MOST_DEPTH" = some u ∧ RelV v u ∧ ∀ F, DR K mg F v Gv.MOST_DEPTH
  g_MOST_EXECUTED : ∃ u v, mg "MOST_EXECUTED" = some u ∧ RelV v u ∧ ∀ F, DR K mg F v Gv.MOST_EXECUTED
  g_MOST_FUNCTIONS : ∃ u v, mg "MOST_FUNCTIONS" = some u ∧ RelV v u ∧ ∀ F, DR K mg F v Gv.MOST_FUNCTIONS
  g_MOST_NUMBER : ∃ u v, mg "MOST_NUMBER" = some u ∧ RelV v u ∧ ∀ F, DR K mg F v Gv.MOST_NUMBER
  g_MOST_PARAMETERS : ∃ u v, mg "MOST_PARAMETERS" = some u ∧ RelV v u ∧ ∀ F, DR K mg F v Gv.MOST_PARAMETERS
  g_MOST_RIGHTS : ∃ u v, mg "MOST_RIGHTS" = some u ∧ RelV v u ∧ ∀ F, DR K mg F v Gv.MOST_RIGHTS
  g_MOST_STARS : ∃ u v, mg "MOST_STARS" = some u ∧ RelV v u ∧ ∀ F, DR K mg F v Gv.MOST_STARS
  g_MOST_STATEMENTS : ∃ u v, mg "MOST_STATEMENTS" = some u ∧ RelV v u ∧ ∀ F, DR K mg F v Gv.MOST_STATEMENTS
  g_RIGHTS : ∃ u v, mg "RIGHTS" = some u ∧ RelV v u ∧ ∀ F, DR K mg F v Gv.RIGHTS
  re : ∃ C fI, PySem.ReX.Txt K mg P C fI
  k_Function : ∃ C fI fd, Fun K "__init__" "Function.__init__" S_Function___init__ fI fd ∧ mg "Function" = some (.ref C) ∧ Mk K C fI
  k_Program : ∃ C fI fd, Fun K "__init__" "Program.__init__" S_Program___init__ fI fd ∧ mg "Program" = some (.ref C) ∧ Mk K C fI
  k_Thing : ∃ C fI fd, Fun K "__init__" "Thing.__init__" S_Thing___init__ fI fd ∧ mg "Thing" = some (.ref C) ∧ Mk K C fI
  k_World : ∃ C fI fd, Fun K "__init__" "World.__init__" S_World___init__ fI fd ∧ mg "World" = some (.ref C) ∧ Mk K C fI
  em_World_read : ∃ C fa fd, Fun K "read" "World.read" S_World_read fa fd ∧ mg "World" = some (.ref C) ∧ Cls K C ∧ Meth K C "read" fa
  em_World_make : ∃ C fa fd, Fun K "make" "World.make" S_World_make fa fd ∧ mg "World" = some (.ref C) ∧ Cls K C ∧ Meth K C "make" fa
  em_World_write : ∃ C fa fd, Fun K "write" "World.write" S_World_write fa fd ∧ mg "World" = some (.ref C) ∧ Cls K C ∧ Meth K C "write" fa
  a_Function_body : HasC K mg "Function" ["body"]
  a_Function_name : HasC K mg "Function" ["name"]
  a_Function_params : HasC K mg "Function" ["params"]
  a_Program_functions : HasC K mg "Program" ["functions"]
  a_Program_statements : HasC K mg "Program" ["statements"]
  a_Thing_kind : HasC K mg "Thing" ["kind"]
  a_Thing_name : HasC K mg "Thing" ["name"]
  a_Thing_value : HasC K mg "Thing" ["value"]
  a_World_breaches : HasC K mg "World" ["breaches"]
  a_World_executed : HasC K mg "World" ["executed"]
  a_World_things : HasC K mg "World" ["things"]
  at_body_Function : ∀ c ∈ (["Function"] : List Str), HasC K mg c ["body"]
  at_breaches_World : ∀ c ∈ (["World"] : List Str), HasC K mg c ["breaches"]
  at_executed_World : ∀ c ∈ (["World"] : List Str), HasC K mg c ["executed"]
  at_functions_Program : ∀ c ∈ (["Program"] : List Str), HasC K mg c ["functions"]
  at_kind_Thing : ∀ c ∈ (["Thing"] : List Str), HasC K mg c ["kind"]
  at_name_Function : ∀ c ∈ (["Function"] : List Str), HasC K mg c ["name"]
  at_name_Thing : ∀ c ∈ (["Thing"] : List Str), HasC K mg c ["name"]
  at_params_Function : ∀ c ∈ (["Function"] : List Str), HasC K mg c ["params"]
  at_statements_Program : ∀ c ∈ (["Program"] : List Str), HasC K mg c ["statements"]
  at_things_World : ∀ c ∈ (["World"] : List Str), HasC K mg c ["things"]
  at_value_Thing : ∀ c ∈ (["Thing"] : List Str), HasC K mg c ["value"]
  i_Function : HasI K mg "Function"
  f__law_cell : ∃ f fd, Fun K "_law_cell" "_law_cell" S__law_cell f fd ∧ mg "_law_cell" = some (.ref f)
  f__law_row : ∃ f fd, Fun K "_law_row" "_law_row" S__law_row f fd ∧ mg "_law_row" = some (.ref f)
  f__law_draw : ∃ f fd, Fun K "_law_draw" "_law_draw" S__law_draw f fd ∧ mg "_law_draw" = some (.ref f)
  f__law_right : ∃ f fd, Fun K "_law_right" "_law_right" S__law_right f fd ∧ mg "_law_right" = some (.ref f)
  f__law_rights : ∃ f fd, Fun K "_law_rights" "_law_rights" S__law_rights f fd ∧ mg "_law_rights" = some (.ref f)
  f__law_pair : ∃ f fd, Fun K "_law_pair" "_law_pair" S__law_pair f fd ∧ mg "_law_pair" = some (.ref f)
  f__find : ∃ f fd, Fun K "_find" "_find" S__find f fd ∧ mg "_find" = some (.ref f)
  f_converts : ∃ f fd, Fun K "converts" "converts" S_converts f fd ∧ mg "converts" = some (.ref f)
  f_bar : ∃ f fd, Fun K "bar" "bar" S_bar f fd ∧ mg "bar" = some (.ref f)
  f__steps : ∃ f fd, Fun K "_steps" "_steps" S__steps f fd ∧ mg "_steps" = some (.ref f)
  f__copied : ∃ f fd, Fun K "_copied" "_copied" S__copied f fd ∧ mg "_copied" = some (.ref f)
  f_copied : ∃ f fd, Fun K "copied" "copied" S_copied f fd ∧ mg "copied" = some (.ref f)
  f__are_calls : ∃ f fd, Fun K "_are_calls" "_are_calls" S__are_calls f fd ∧ mg "_are_calls" = some (.ref f)
  f_is_name : ∃ f fd, Fun K "is_name" "is_name" S_is_name f fd ∧ mg "is_name" = some (.ref f)
  f_is_right : ∃ f fd, Fun K "is_right" "is_right" S_is_right f fd ∧ mg "is_right" = some (.ref f)
  f_is_value_type : ∃ f fd, Fun K "is_value_type" "is_value_type" S_is_value_type f fd ∧ mg "is_value_type" = some (.ref f)
  f_is_type : ∃ f fd, Fun K "is_type" "is_type" S_is_type f fd ∧ mg "is_type" = some (.ref f)
  f_is_number : ∃ f fd, Fun K "is_number" "is_number" S_is_number f fd ∧ mg "is_number" = some (.ref f)
  f_is_depth : ∃ f fd, Fun K "is_depth" "is_depth" S_is_depth f fd ∧ mg "is_depth" = some (.ref f)
  f_is_place : ∃ f fd, Fun K "is_place" "is_place" S_is_place f fd ∧ mg "is_place" = some (.ref f)
  f_is_source : ∃ f fd, Fun K "is_source" "is_source" S_is_source f fd ∧ mg "is_source" = some (.ref f)
  f_is_statement : ∃ f fd, Fun K "is_statement" "is_statement" S_is_statement f fd ∧ mg "is_statement" = some (.ref f)
  f__is_block : ∃ f fd, Fun K "_is_block" "_is_block" S__is_block f fd ∧ mg "_is_block" = some (.ref f)
  f__made : ∃ f fd, Fun K "_made" "_made" S__made f fd ∧ mg "_made" = some (.ref f)
  f_names_of : ∃ f fd, Fun K "names_of" "names_of" S_names_of f fd ∧ mg "names_of" = some (.ref f)
  f__is_parameter : ∃ f fd, Fun K "_is_parameter" "_is_parameter" S__is_parameter f fd ∧ mg "_is_parameter" = some (.ref f)
  f__is_function : ∃ f fd, Fun K "_is_function" "_is_function" S__is_function f fd ∧ mg "_is_function" = some (.ref f)
  f__is_program : ∃ f fd, Fun K "_is_program" "_is_program" S__is_program f fd ∧ mg "_is_program" = some (.ref f)
  f__empty : ∃ f fd, Fun K "_empty" "_empty" S__empty f fd ∧ mg "_empty" = some (.ref f)
  f__converter : ∃ f fd, Fun K "_converter" "_converter" S__converter f fd ∧ mg "_converter" = some (.ref f)
  f_breaking : ∃ f fd, Fun K "breaking" "breaking" S_breaking f fd ∧ mg "breaking" = some (.ref f)
  f_function_of : ∃ f fd, Fun K "function_of" "function_of" S_function_of f fd ∧ mg "function_of" = some (.ref f)
  f_place_fault : ∃ f fd, Fun K "place_fault" "place_fault" S_place_fault f fd ∧ mg "place_fault" = some (.ref f)
  f_seen_type : ∃ f fd, Fun K "seen_type" "seen_type" S_seen_type f fd ∧ mg "seen_type" = some (.ref f)
  f__conversion_fault : ∃ f fd, Fun K "_conversion_fault" "_conversion_fault" S__conversion_fault f fd ∧ mg "_conversion_fault" = some (.ref f)
  f_source_fault : ∃ f fd, Fun K "source_fault" "source_fault" S_source_fault f fd ∧ mg "source_fault" = some (.ref f)
  f__put_fault : ∃ f fd, Fun K "_put_fault" "_put_fault" S__put_fault f fd ∧ mg "_put_fault" = some (.ref f)
  f_statement_fault : ∃ f fd, Fun K "statement_fault" "statement_fault" S_statement_fault f fd ∧ mg "statement_fault" = some (.ref f)
  f_block_faults : ∃ f fd, Fun K "block_faults" "block_faults" S_block_faults f fd ∧ mg "block_faults" = some (.ref f)
  f_faults : ∃ f fd, Fun K "faults" "faults" S_faults f fd ∧ mg "faults" = some (.ref f)
  f_is_let_by : ∃ f fd, Fun K "is_let_by" "is_let_by" S_is_let_by f fd ∧ mg "is_let_by" = some (.ref f)
  f__thing_at : ∃ f fd, Fun K "_thing_at" "_thing_at" S__thing_at f fd ∧ mg "_thing_at" = some (.ref f)
  f__looked_up : ∃ f fd, Fun K "_looked_up" "_looked_up" S__looked_up f fd ∧ mg "_looked_up" = some (.ref f)
  f__all_looked_up : ∃ f fd, Fun K "_all_looked_up" "_all_looked_up" S__all_looked_up f fd ∧ mg "_all_looked_up" = some (.ref f)
  f__put : ∃ f fd, Fun K "_put" "_put" S__put f fd ∧ mg "_put" = some (.ref f)
  f_act_all : ∃ f fd, Fun K "act_all" "act_all" S_act_all f fd ∧ mg "act_all" = some (.ref f)
  f__call : ∃ f fd, Fun K "_call" "_call" S__call f fd ∧ mg "_call" = some (.ref f)
  f_act : ∃ f fd, Fun K "act" "act" S_act f fd ∧ mg "act" = some (.ref f)
  f_shown_things : ∃ f fd, Fun K "shown_things" "shown_things" S_shown_things f fd ∧ mg "shown_things" = some (.ref f)
  f_run : ∃ f fd, Fun K "run" "run" S_run f fd ∧ mg "run" = some (.ref f)
  f_is_breaking : ∃ f fd, Fun K "is_breaking" "is_breaking" S_is_breaking f fd ∧ mg "is_breaking" = some (.ref f)
  f_is_bar : ∃ f fd, Fun K "is_bar" "is_bar" S_is_bar f fd ∧ mg "is_bar" = some (.ref f)
section
variable {P : Program} {w : World} {K : PySem.W.Frag} {mg : Str → Option Value} {base : Heap}
theorem sc__law_cell : FnScope ["_law_script", "_law_k"] ["_law_script", "_law_k"] (defScope S__law_cell) := ⟨rfl, rfl, rfl, by decide +kernel, rfl, by decide +kernel, by decide +kernel⟩
theorem h__law_cell (E : En P w K mg base) : HasFn P w K mg base 1 "_law_cell" [false, false] Ir._law_cell.fn := by
  obtain ⟨f, fd, Fu, hm⟩ := E.f__law_cell
  exact fn_ok (d := Ir._law_cell) Fu sc__law_cell hm rfl rfl (fun _ _ _ _ _ _ us hl => match us, hl with | [_, _], _ => rfl) fun cdv A outer s H Ex c hp =>
    (s_cons (s_if (t_cmp od_lt (o_var 1) (o_e (e_bi (bi_len E.z_len) (lo_cons (o_var 0) lo_nil))))
     (s_cons (s_ret (e_ix c (o_var 0) (o_var 1)))
     s_nil)
     s_nil)
    (s_cons (s_ret e_int)
    s_nil))
theorem sc__law_row : FnScope ["_law_script", "_law_first", "_law_last", "_law_row_here", "_law_k", "_law_cell_here", "_law_turn"] ["_law_script", "_law_first", "_law_last"] (defScope S__law_row) := ⟨rfl, rfl, rfl, by decide +kernel, rfl, by decide +kernel, by decide +kernel⟩
theorem h__law_row (E : En P w K mg base) : HasFn P w K mg base 2 "_law_row" [false, false, false] Ir._law_row.fn := by
  obtain ⟨f, fd, Fu, hm⟩ := E.f__law_row
  exact fn_ok (d := Ir._law_row) Fu sc__law_row hm rfl rfl (fun _ _ _ _ _ _ us hl => match us, hl with | [_, _, _], _ => rfl) fun cdv A outer s H Ex c hp =>
    (s_cons (s_asg 3 c (e_lst l_nil))
    (s_cons (s_for c hp (i_rng2 E.z_range (e_var 1) (e_var 2)) (g_nm 4 c)
     (s_cons (s_asg 5 c (e_call c (h__law_cell E) (la_cons (r_f (e_var 0)) (la_cons (r_f (e_var 4)) la_nil))))
     (s_cons (s_asg 5 c (e_bop od_add (o_e (e_bi (bi_abs E.z_abs) (lo_cons (o_e (e_bop od_mul (o_e e_int) (o_var 5))) lo_nil))) (o_e (e_bi (bi_int E.z_int) (lo_cons (o_e (e_cmp od_lt (o_var 5) (o_e e_int))) lo_nil)))))
     (s_cons (s_if (t_cmp od_gt (o_var 5) (o_e (e_bop od_pow (o_e e_int) (o_e e_int))))
      (s_cons (s_for c hp (i_rng1 E.z_range e_int) (g_nm 6 c)
       (s_cons (s_if (t_cmp od_gt (o_var 5) (o_e e_int))
        (s_cons (s_app 3 (pv 3) (e_bop od_mod (o_e (e_bi (bi_int E.z_int) (lo_cons (o_var 5) lo_nil))) (o_e e_int)))
        (s_cons (s_asg 5 c (e_bop od_fdiv (o_var 5) (o_e e_int)))
        s_nil))
        s_nil)
       s_nil))
      s_nil)
      (s_cons (s_for c hp (i_rng1 E.z_range e_int) (g_nm 6 c)
       (s_cons (s_asg 5 c (e_bop od_mod (o_e (e_bi (bi_int E.z_int) (lo_cons (o_e (e_bop od_add (o_e (e_bop od_add (o_e (e_bop od_mul (o_var 5) (o_e e_int))) (o_e (e_bop od_mul (o_e e_int) (o_e (e_bop od_add (o_var 4) (o_var 6))))))) (o_e e_int))) lo_nil))) (o_e e_int)))
       (s_cons (s_app 3 (pv 3) (e_bop od_mod (o_e (e_bi (bi_int E.z_int) (lo_cons (o_e (e_bop od_fdiv (o_var 5) (o_e e_int))) lo_nil))) (o_e e_int)))
       s_nil)))
      s_nil))
     s_nil))))
    (s_cons (s_ret (e_var 3))
    s_nil)))
theorem sc__law_draw : FnScope ["_law_box", "_law_many", "_law_at"] ["_law_box", "_law_many"] (defScope S__law_draw) := ⟨rfl, rfl, rfl, by decide +kernel, rfl, by decide +kernel, by decide +kernel⟩
theorem h__law_draw (E : En P w K mg base) : HasFn P w K mg base 1 "_law_draw" [true, false] Ir._law_draw.fn := by
  obtain ⟨f, fd, Fu, hm⟩ := E.f__law_draw
  exact fn_ok (d := Ir._law_draw) Fu sc__law_draw hm rfl rfl (fun _ _ _ _ _ _ us hl => match us, hl with | [_, _], _ => rfl) fun cdv A outer s H Ex c hp =>
    (s_cons (s_asg 2 c (e_ix c (o_var 0) (o_e e_int)))
    (s_cons (s_sto 0 c (o_e e_int) (e_fz (e_bop od_add (o_var 2) (o_e e_int))) (pv 0))
    (s_cons (s_if (t_cmp od_lt (o_var 2) (o_e (e_bi (bi_len E.z_len) (lo_cons (o_e (e_ix c (o_var 0) (o_e e_int))) lo_nil))))
     (s_cons (s_ret (e_bop od_mod (o_e (e_bi (bi_int E.z_int) (lo_cons (o_e (e_ix c (o_e (e_ix c (o_var 0) (o_e e_int))) (o_var 2))) lo_nil))) (o_var 1)))
     s_nil)
     s_nil)
    (s_cons (s_ret (e_bop od_mod (o_e (e_bi (bi_int E.z_int) (lo_cons (o_e (e_bop od_add (o_e (e_bop od_mul (o_var 2) (o_e e_int))) (o_e e_int))) lo_nil))) (o_var 1)))
    s_nil))))
theorem sc__law_right : FnScope ["_law_box"] ["_law_box"] (defScope S__law_right) := ⟨rfl, rfl, rfl, by decide +kernel, rfl, by decide +kernel, by decide +kernel⟩
theorem h__law_right (E : En P w K mg base) : HasFn P w K mg base 2 "_law_right" [true] Ir._law_right.fn := by
  obtain ⟨f, fd, Fu, hm⟩ := E.f__law_right
  exact fn_ok (d := Ir._law_right) Fu sc__law_right hm rfl rfl (fun _ _ _ _ _ _ us hl => match us, hl with | [_], _ => rfl) fun cdv A outer s H Ex c hp =>
    (s_cons (s_ret (e_ix c (o_e (e_lst (l_cons e_str (l_cons e_str (l_cons e_str (l_cons e_str (l_cons e_str (l_cons e_str l_nil)))))))) (o_e (e_call c (h__law_draw E) (la_cons (r_var 0) (la_cons (r_f e_int) la_nil))))))
    s_nil)
theorem sc__law_rights : FnScope ["_law_box", "_law_many", "_law_k"] ["_law_box", "_law_many"] (defScope S__law_rights) := ⟨rfl, rfl, rfl, by decide +kernel, rfl, by decide +kernel, by decide +kernel⟩
theorem h__law_rights (E : En P w K mg base) : HasFn P w K mg base 3 "_law_rights" [true, false] Ir._law_rights.fn := by
  obtain ⟨f, fd, Fu, hm⟩ := E.f__law_rights
  exact fn_ok (d := Ir._law_rights) Fu sc__law_rights hm rfl rfl (fun _ _ _ _ _ _ us hl => match us, hl with | [_, _], _ => rfl) fun cdv A outer s H Ex c hp =>
    (s_cons (s_ret (e_bi (bi_tuple E.z_tuple) (lo_cons (o_e (e_lc (own := [("_law_k", 2)]) c (i_rng1 E.z_range (e_var 1)) (fun _ _ _ _ _ => (g_nm 2 (c.blk))) (fun _ _ _ _ _ => c_no) (fun _ _ _ _ _ => (e_call (c.blk) (h__law_right E) (la_cons (r_var 0) la_nil))))) lo_nil)))
    s_nil)
theorem sc__law_pair : FnScope ["_law_box", "_law_most", "_law_many", "_law_one", "_law_two", "_law_k"] ["_law_box", "_law_most"] (defScope S__law_pair) := ⟨rfl, rfl, rfl, by decide +kernel, rfl, by decide +kernel, by decide +kernel⟩
theorem h__law_pair (E : En P w K mg base) : HasFn P w K mg base 4 "_law_pair" [true, false] Ir._law_pair.fn := by
  obtain ⟨f, fd, Fu, hm⟩ := E.f__law_pair
  exact fn_ok (d := Ir._law_pair) Fu sc__law_pair hm rfl rfl (fun _ _ _ _ _ _ us hl => match us, hl with | [_, _], _ => rfl) fun cdv A outer s H Ex c hp =>
    (s_cons (s_asg 2 c (e_call c (h__law_draw E) (la_cons (r_var 0) (la_cons (r_f (e_bop od_add (o_var 1) (o_e e_int))) la_nil))))
    (s_cons (s_asg 3 c (e_call c (h__law_rights E) (la_cons (r_var 0) (la_cons (r_f (e_var 2)) la_nil))))
    (s_cons (s_asg 4 c (e_call c (h__law_rights E) (la_cons (r_var 0) (la_cons (r_f (e_var 2)) la_nil))))
    (s_cons (s_if (t_cmp (od_eq c.u64) (o_e (e_call c (h__law_draw E) (la_cons (r_var 0) (la_cons (r_f e_int) la_nil)))) (o_e e_int))
     (s_cons (s_asg 4 c (e_bi (bi_tuple E.z_tuple) (lo_cons (o_e (e_lc (own := [("_law_k", 5)]) c (i_rng1 E.z_range (e_var 2)) (fun _ _ _ _ _ => (g_nm 5 (c.blk))) (fun _ _ _ _ _ => c_no) (fun _ _ _ _ _ => (e_ix (c.blk) (o_e (e_lst (l_cons (e_ix (c.blk) (o_var 4) (o_var 5)) (l_cons (e_ix (c.blk) (o_var 3) (o_var 5)) l_nil)))) (o_e (e_bi (bi_int E.z_int) (lo_cons (o_e (e_cmp od_gt (o_e (e_call (c.blk) (h__law_draw E) (la_cons (r_var 0) (la_cons (r_f e_int) la_nil)))) (o_e e_int))) lo_nil))))))) lo_nil)))
     s_nil)
     s_nil)
    (s_cons (s_ret (e_fz (e_lst (l_cons (e_var 3) (l_cons (e_var 4) l_nil)))))
    s_nil)))))
theorem sc__find : FnScope ["one", "two", "letter", "told"] ["one", "two"] (defScope S__find) := ⟨rfl, rfl, rfl, by decide +kernel, rfl, by decide +kernel, by decide +kernel⟩
theorem h__find (E : En P w K mg base) : ∀ n : Nat, HasFn P w K mg base (0 + n) "_find" [false, false] (Ir._findN n)
  | 0 => by
    obtain ⟨f, fd, Fu, hm⟩ := E.f__find
    exact fn_none Fu sc__find hm (fun _ _ _ _ _ _ us hl => match us, hl with | [_, _], _ => rfl)
  | n + 1 => by
    have ih := h__find E n
    obtain ⟨f, fd, Fu, hm⟩ := E.f__find
    refine fn_ok (k := 0 + n) (d := Ir._find (Ir._findN n)) Fu sc__find hm rfl rfl (fun _ _ _ _ _ _ us hl => match us, hl with | [_, _], _ => rfl) fun cdv A outer s H Ex c hp => ?_
    have hk : decide (0 + n ≤ 0 + n) = true := decide_eq_true (Nat.le_refl _)
    exact (s_cons (s_if (t_not (t_of (o_var 0)))
     (s_cons (s_ret e_non)
     s_nil)
     s_nil)
    (s_cons (s_for c hp (i_val (e_tup (l_cons e_str (l_cons e_str l_nil)))) (g_nm 2 c)
     (s_cons (s_if (t_and (w_and (t_cmp (od_in c.u65) (o_var 2) (o_e (e_ix c (o_var 1) (o_e e_int)))) (w_and1 (t_cmp (od_nin c.u65) (o_var 2) (o_e (e_ix c (o_var 0) (o_e e_int)))))))
      (s_cons (s_ret (e_tup (l_cons (e_lst l_nil) (l_cons (e_var 2) l_nil))))
      s_nil)
      s_nil)
     s_nil))
    (s_cons (s_for c hp (i_val (e_tup (l_cons e_str (l_cons e_str l_nil)))) (g_nm 2 c)
     (s_cons (s_if (t_cmp (od_in c.u65) (o_var 2) (o_e (e_ix c (o_var 1) (o_e e_int))))
      (s_cons (s_asg 3 c (e_if (t_cmp (od_eq c.u64) (o_var 2) (o_e e_str)) (e_call c ih (la_cons (r_f (e_sl (o_var 0) (po_s e_int) po_n)) (la_cons (r_f (e_sl (o_var 1) (po_s e_int) po_n)) la_nil)) hk) (e_call c ih (la_cons (r_f (e_sl (o_var 1) (po_s e_int) po_n)) (la_cons (r_f (e_sl (o_var 0) (po_s e_int) po_n)) la_nil)) hk)))
      (s_cons (s_if (t_cmp od_nis (o_var 3) (o_e e_non))
       (s_cons (s_ret (e_tup (l_cons (e_bop od_add (o_e (e_lst (l_cons (e_var 2) l_nil))) (o_e (e_ix c (o_var 3) (o_e e_int)))) (l_cons (e_ix c (o_var 3) (o_e e_int)) l_nil))))
       s_nil)
       s_nil)
      s_nil))
      s_nil)
     s_nil))
    (s_cons (s_ret e_non)
    s_nil))))
theorem sc_converts : FnScope ["one", "two"] ["one", "two"] (defScope S_converts) := ⟨rfl, rfl, rfl, by decide +kernel, rfl, by decide +kernel, by decide +kernel⟩
theorem h_converts (E : En P w K mg base) : HasFn P w K mg base 11 "converts" [false, false] Ir.converts.fn := by
  obtain ⟨f, fd, Fu, hm⟩ := E.f_converts
  exact fn_ok (d := Ir.converts) Fu sc_converts hm rfl rfl (fun _ _ _ _ _ _ us hl => match us, hl with | [_, _], _ => rfl) fun cdv A outer s H Ex c hp =>
    (s_cons (s_ret (e_and (e_cmp (od_eq c.u64) (o_e (e_bi (bi_len E.z_len) (lo_cons (o_var 0) lo_nil))) (o_e (e_bi (bi_len E.z_len) (lo_cons (o_var 1) lo_nil)))) (e_and1 (e_cmp od_is (o_e (e_call c (h__find E 10) (la_cons (r_f (e_var 0)) (la_cons (r_f (e_var 1)) la_nil)))) (o_e e_non)))))
    s_nil)
theorem sc_bar : FnScope ["one", "two"] ["one", "two"] (defScope S_bar) := ⟨rfl, rfl, rfl, by decide +kernel, rfl, by decide +kernel, by decide +kernel⟩
theorem h_bar (E : En P w K mg base) : HasFn P w K mg base 11 "bar" [false, false] Ir.bar.fn := by
  obtain ⟨f, fd, Fu, hm⟩ := E.f_bar
  exact fn_ok (d := Ir.bar) Fu sc_bar hm rfl rfl (fun _ _ _ _ _ _ us hl => match us, hl with | [_, _], _ => rfl) fun cdv A outer s H Ex c hp =>
    (s_cons (s_ret (e_call c (h__find E 10) (la_cons (r_f (e_var 0)) (la_cons (r_f (e_var 1)) la_nil))))
    s_nil)
theorem sc__steps : FnScope ["one", "two", "letters", "found", "letter"] ["one", "two", "letters"] (defScope S__steps) := ⟨rfl, rfl, rfl, by decide +kernel, rfl, by decide +kernel, by decide +kernel⟩
theorem h__steps (E : En P w K mg base) : HasFn P w K mg base 1 "_steps" [false, false, false] Ir._steps.fn := by
  obtain ⟨f, fd, Fu, hm⟩ := E.f__steps
  exact fn_ok (d := Ir._steps) Fu sc__steps hm rfl rfl (fun _ _ _ _ _ _ us hl => match us, hl with | [_, _, _], _ => rfl) fun cdv A outer s H Ex c hp =>
    (s_cons (s_asg 3 c (e_lst (l_cons (e_tup (l_cons (e_var 0) (l_cons (e_var 1) l_nil))) l_nil)))
    (s_cons (s_for c hp (i_val (e_var 2)) (g_nm 4 c)
     (s_cons (s_asgT (e_if (t_cmp (od_eq c.u64) (o_var 4) (o_e e_str)) (e_tup (l_cons (e_sl (o_var 0) (po_s e_int) po_n) (l_cons (e_sl (o_var 1) (po_s e_int) po_n) l_nil))) (e_tup (l_cons (e_sl (o_var 1) (po_s e_int) po_n) (l_cons (e_sl (o_var 0) (po_s e_int) po_n) l_nil)))) (g_tp c (gs_cons (g_nm 0 c) (gs_cons (g_nm 1 c) gs_nil))))
     (s_cons (s_app 3 (pv 3) (e_tup (l_cons (e_var 0) (l_cons (e_var 1) l_nil))))
     s_nil)))
    (s_cons (s_ret (e_var 3))
    s_nil)))
theorem sc__copied : FnScope ["part", "item"] ["part"] (defScope S__copied) := ⟨rfl, rfl, rfl, by decide +kernel, rfl, by decide +kernel, by decide +kernel⟩
theorem h__copied (E : En P w K mg base) : HasFn P w K mg base 1 "_copied" [false] Ir._copied.fn := by
  obtain ⟨f, fd, Fu, hm⟩ := E.f__copied
  exact fn_ok (d := Ir._copied) Fu sc__copied hm rfl rfl (fun _ _ _ _ _ _ us hl => match us, hl with | [_], _ => rfl) fun cdv A outer s H Ex c hp =>
    (s_cons (s_if (t_not (t_of (o_e (e_isi (T := "tuple") E.z_isinstance E.z_tuple (o_var 0)))))
     (s_cons (s_ret (e_var 0))
     s_nil)
     s_nil)
    (s_cons (s_ret (e_bi (bi_tuple E.z_tuple) (lo_cons (o_e (e_lc (own := [("item", 1)]) c (i_val (e_var 0)) (fun _ _ _ _ _ => (g_nm 1 (c.blk))) (fun _ _ _ _ _ => c_no) (fun _ _ _ _ _ => (e_if (t_of (o_e (e_isi (T := "list") E.z_isinstance E.z_list (o_var 1)))) (e_bi (bi_list E.z_list) (lo_cons (o_var 1) lo_nil)) (e_var 1))))) lo_nil)))
    s_nil))
theorem sc_copied : FnScope ["thing", "part"] ["thing"] (defScope S_copied) := ⟨rfl, rfl, rfl, by decide +kernel, rfl, by decide +kernel, by decide +kernel⟩
theorem h_copied (E : En P w K mg base) : HasFn P w K mg base 2 "copied" [false] Ir.copied.fn := by
  obtain ⟨f, fd, Fu, hm⟩ := E.f_copied
  exact fn_ok (d := Ir.copied) Fu sc_copied hm rfl rfl (fun _ _ _ _ _ _ us hl => match us, hl with | [_], _ => rfl) fun cdv A outer s H Ex c hp =>
    (s_cons (s_if (t_not (t_of (o_e (e_isi (T := "list") E.z_isinstance E.z_list (o_var 0)))))
     (s_cons (s_ret (e_var 0))
     s_nil)
     s_nil)
    (s_cons (s_ret (e_fz (e_lc (own := [("part", 1)]) c (i_val (e_var 0)) (fun _ _ _ _ _ => (g_nm 1 (c.blk))) (fun _ _ _ _ _ => c_no) (fun _ _ _ _ _ => (e_call (c.blk) (h__copied E) (la_cons (r_f (e_var 1)) la_nil))))))
    s_nil))
theorem sc_Function___init__ : FnScope ["self", "name", "params", "body"] ["self", "name", "params", "body"] (defScope S_Function___init__) := ⟨rfl, rfl, rfl, by decide +kernel, rfl, by decide +kernel, by decide +kernel⟩
theorem m_Function (E : En P w K mg base) : HasMk P w K mg base 3 "Function" 3 Ir.Function___init__.fn := by
  obtain ⟨C, fI, fd, Fu, hm, hMk⟩ := E.k_Function
  exact ⟨C, fI, fd, ["self", "name", "params", "body"], fn_ok0 (d := Ir.Function___init__) Fu sc_Function___init__ rfl rfl fun cdv A outer s H Ex c hp =>
    (s_cons (s_sta 0 E.a_Function_name (e_var 1))
    (s_cons (s_sta 0 E.a_Function_params (e_call c (h_copied E) (la_cons (r_f (e_var 2)) la_nil)))
    (s_cons (s_sta 0 E.a_Function_body (e_call c (h_copied E) (la_cons (r_f (e_var 3)) la_nil)))
    s_nil))), hm, hMk, Fu.binds (fun _ _ _ _ _ _ us hl => match us, hl with | [_, _, _, _], _ => rfl)⟩
theorem sc__are_calls : FnScope ["statements", "functions", "counts", "statement", "function"] ["statements", "functions"] (defScope S__are_calls) := ⟨rfl, rfl, rfl, by decide +kernel, rfl, by decide +kernel, by decide +kernel⟩
theorem h__are_calls (E : En P w K mg base) : HasFn P w K mg base 1 "_are_calls" [false, false] Ir._are_calls.fn := by
  obtain ⟨f, fd, Fu, hm⟩ := E.f__are_calls
  exact fn_ok (d := Ir._are_calls) Fu sc__are_calls hm rfl rfl (fun _ _ _ _ _ _ us hl => match us, hl with | [_, _], _ => rfl) fun cdv A outer s H Ex c hp =>
    (s_cons (s_dc 2 (own := [("function", 4)]) c (i_val (e_var 1)) (fun _ _ _ _ _ => (g_nm 4 (c.blk))) (fun _ _ _ _ _ => (e_att E.at_name_Function (e_var 4))) (fun _ _ _ _ _ => (e_bi (bi_len E.z_len) (lo_cons (o_e (e_att E.at_params_Function (e_var 4))) lo_nil))))
    (s_cons (s_for c hp (i_val (e_var 0)) (g_nm 3 c)
     (s_cons (s_if (t_and (w_and (t_cmp (od_eq c.u64) (o_e (e_ix c (o_var 3) (o_e e_int))) (o_e e_str)) (w_and1 (t_cmp (od_ne c.u64) (o_e (e_get c (o_var 2) (o_e (e_ix c (o_var 3) (o_e e_int))))) (o_e (e_bi (bi_len E.z_len) (lo_cons (o_e (e_ix c (o_var 3) (o_e e_int))) lo_nil)))))))
      (s_cons (s_ret e_bl)
      s_nil)
      s_nil)
     s_nil))
    (s_cons (s_ret e_bl)
    s_nil)))
theorem sc_is_name : FnScope ["thing", "letter"] ["thing"] (defScope S_is_name) := ⟨rfl, rfl, rfl, by decide +kernel, rfl, by decide +kernel, by decide +kernel⟩
theorem h_is_name (E : En P w K mg base) : HasFn P w K mg base 1 "is_name" [false] Ir.is_name.fn := by
  obtain ⟨f, fd, Fu, hm⟩ := E.f_is_name
  exact fn_ok (d := Ir.is_name) Fu sc_is_name hm rfl rfl (fun _ _ _ _ _ _ us hl => match us, hl with | [_], _ => rfl) fun cdv A outer s H Ex c hp =>
    (s_cons (s_if (t_or (w_or (t_not (t_of (o_e (e_isi (T := "str") E.z_isinstance E.z_str (o_var 0))))) (w_or (t_not (t_chn od_le od_le (o_e e_int) (o_e (e_bi (bi_len E.z_len) (lo_cons (o_var 0) lo_nil))) (o_e (e_glo E.g_LONGEST_NAME)))) (w_or1 (t_cmp (od_eq c.u64) (o_var 0) (o_e e_str))))))
     (s_cons (s_ret e_bl)
     s_nil)
     s_nil)
    (s_cons (s_ret (e_bi (bi_all c.calm E.z_all) (lo_cons (o_e (e_lc (own := [("letter", 1)]) c (i_val (e_var 0)) (fun _ _ _ _ _ => (g_nm 1 (c.blk))) (fun _ _ _ _ _ => c_no) (fun _ _ _ _ _ => (e_cmp (od_in (c.blk).u65) (o_var 1) (o_e (e_glo E.g_LETTERS)))))) lo_nil)))
    s_nil))
theorem sc_is_right : FnScope ["thing"] ["thing"] (defScope S_is_right) := ⟨rfl, rfl, rfl, by decide +kernel, rfl, by decide +kernel, by decide +kernel⟩
theorem h_is_right (E : En P w K mg base) : HasFn P w K mg base 1 "is_right" [false] Ir.is_right.fn := by
  obtain ⟨f, fd, Fu, hm⟩ := E.f_is_right
  exact fn_ok (d := Ir.is_right) Fu sc_is_right hm rfl rfl (fun _ _ _ _ _ _ us hl => match us, hl with | [_], _ => rfl) fun cdv A outer s H Ex c hp =>
    (s_cons (s_ret (e_and (e_isi (T := "str") E.z_isinstance E.z_str (o_var 0)) (e_and1 (e_cmp (od_in c.u65) (o_var 0) (o_e (e_glo E.g_RIGHTS))))))
    s_nil)
theorem sc_is_value_type : FnScope ["thing", "right"] ["thing"] (defScope S_is_value_type) := ⟨rfl, rfl, rfl, by decide +kernel, rfl, by decide +kernel, by decide +kernel⟩
theorem h_is_value_type (E : En P w K mg base) : HasFn P w K mg base 2 "is_value_type" [false] Ir.is_value_type.fn := by
  obtain ⟨f, fd, Fu, hm⟩ := E.f_is_value_type
  exact fn_ok (d := Ir.is_value_type) Fu sc_is_value_type hm rfl rfl (fun _ _ _ _ _ _ us hl => match us, hl with | [_], _ => rfl) fun cdv A outer s H Ex c hp =>
    (s_cons (s_ret (e_and (e_isi (T := "tuple") E.z_isinstance E.z_tuple (o_var 0)) (e_and (e_cmp od_le (o_e (e_bi (bi_len E.z_len) (lo_cons (o_var 0) lo_nil))) (o_e (e_glo E.g_MOST_RIGHTS))) (e_and1 (e_bi (bi_all c.calm E.z_all) (lo_cons (o_e (e_lc (own := [("right", 1)]) c (i_val (e_var 0)) (fun _ _ _ _ _ => (g_nm 1 (c.blk))) (fun _ _ _ _ _ => c_no) (fun _ _ _ _ _ => (e_call (c.blk) (h_is_right E) (la_cons (r_f (e_var 1)) la_nil))))) lo_nil))))))
    s_nil)
theorem sc_is_type : FnScope ["thing"] ["thing"] (defScope S_is_type) := ⟨rfl, rfl, rfl, by decide +kernel, rfl, by decide +kernel, by decide +kernel⟩
theorem h_is_type (E : En P w K mg base) : HasFn P w K mg base 3 "is_type" [false] Ir.is_type.fn := by
  obtain ⟨f, fd, Fu, hm⟩ := E.f_is_type
  exact fn_ok (d := Ir.is_type) Fu sc_is_type hm rfl rfl (fun _ _ _ _ _ _ us hl => match us, hl with | [_], _ => rfl) fun cdv A outer s H Ex c hp =>
    (s_cons (s_ret (e_and (e_call c (h_is_value_type E) (la_cons (r_f (e_var 0)) la_nil)) (e_and1 (e_cmp od_gt (o_e (e_bi (bi_len E.z_len) (lo_cons (o_var 0) lo_nil))) (o_e e_int)))))
    s_nil)
theorem sc_is_number : FnScope ["thing", "most"] ["thing", "most"] (defScope S_is_number) := ⟨rfl, rfl, rfl, by decide +kernel, rfl, by decide +kernel, by decide +kernel⟩
theorem h_is_number (E : En P w K mg base) : HasFn P w K mg base 1 "is_number" [false, false] Ir.is_number.fn := by
  obtain ⟨f, fd, Fu, hm⟩ := E.f_is_number
  exact fn_ok (d := Ir.is_number) Fu sc_is_number hm rfl rfl (fun _ _ _ _ _ _ us hl => match us, hl with | [_, _], _ => rfl) fun cdv A outer s H Ex c hp =>
    (s_cons (s_ret (e_and (e_isi (T := "int") E.z_isinstance E.z_int (o_var 0)) (e_and (e_not (o_e (e_isi (T := "bool") E.z_isinstance E.z_bool (o_var 0)))) (e_and1 (e_chn od_le od_le (o_e e_int) (o_var 0) (o_var 1))))))
    s_nil)
theorem sc_is_depth : FnScope ["thing"] ["thing"] (defScope S_is_depth) := ⟨rfl, rfl, rfl, by decide +kernel, rfl, by decide +kernel, by decide +kernel⟩
theorem h_is_depth (E : En P w K mg base) : HasFn P w K mg base 2 "is_depth" [false] Ir.is_depth.fn := by
  obtain ⟨f, fd, Fu, hm⟩ := E.f_is_depth
  exact fn_ok (d := Ir.is_depth) Fu sc_is_depth hm rfl rfl (fun _ _ _ _ _ _ us hl => match us, hl with | [_], _ => rfl) fun cdv A outer s H Ex c hp =>
    (s_cons (s_ret (e_call c (h_is_number E) (la_cons (r_f (e_var 0)) (la_cons (r_f (e_glo E.g_MOST_DEPTH)) la_nil))))
    s_nil)
theorem tb1 (E : En P w K mg base) : ∀ q ∈ [(("is_type" : Str), Ir.is_type.fn), (("is_depth" : Str), Ir.is_depth.fn)], HasFn P w K mg base 3 q.1 (List.replicate 1 false) q.2 := by
  intro q hq
  simp only [List.mem_cons, List.not_mem_nil, or_false] at hq
  rcases hq with rfl | rfl
  · exact (h_is_type E).mono (by decide)
  · exact (h_is_depth E).mono (by decide)
theorem sc_is_place : FnScope ["thing"] ["thing"] (defScope S_is_place) := ⟨rfl, rfl, rfl, by decide +kernel, rfl, by decide +kernel, by decide +kernel⟩
theorem h_is_place (E : En P w K mg base) : HasFn P w K mg base 2 "is_place" [false] Ir.is_place.fn := by
  obtain ⟨f, fd, Fu, hm⟩ := E.f_is_place
  exact fn_ok (d := Ir.is_place) Fu sc_is_place hm rfl rfl (fun _ _ _ _ _ _ us hl => match us, hl with | [_], _ => rfl) fun cdv A outer s H Ex c hp =>
    (s_cons (s_if (t_or (w_or (t_not (t_of (o_e (e_isi (T := "tuple") E.z_isinstance E.z_tuple (o_var 0))))) (w_or1 (t_cmp (od_ne c.u64) (o_e (e_bi (bi_len E.z_len) (lo_cons (o_var 0) lo_nil))) (o_e e_int)))))
     (s_cons (s_ret e_bl)
     s_nil)
     s_nil)
    (s_cons (s_ret (e_and (e_call c (h_is_name E) (la_cons (r_f (e_ix c (o_var 0) (o_e e_int))) la_nil)) (e_and1 (e_call c (h_is_number E) (la_cons (r_f (e_ix c (o_var 0) (o_e e_int))) (la_cons (r_f (e_glo E.g_MOST_STARS)) la_nil))))))
    s_nil))
theorem sc_is_source : FnScope ["thing"] ["thing"] (defScope S_is_source) := ⟨rfl, rfl, rfl, by decide +kernel, rfl, by decide +kernel, by decide +kernel⟩
theorem h_is_source (E : En P w K mg base) : HasFn P w K mg base 3 "is_source" [false] Ir.is_source.fn := by
  obtain ⟨f, fd, Fu, hm⟩ := E.f_is_source
  exact fn_ok (d := Ir.is_source) Fu sc_is_source hm rfl rfl (fun _ _ _ _ _ _ us hl => match us, hl with | [_], _ => rfl) fun cdv A outer s H Ex c hp =>
    (s_cons (s_if (t_cmp (od_eq c.u64) (o_var 0) (o_e (e_tup (l_cons e_str l_nil))))
     (s_cons (s_ret e_bl)
     s_nil)
     s_nil)
    (s_cons (s_if (t_or (w_or (t_not (t_of (o_e (e_isi (T := "tuple") E.z_isinstance E.z_tuple (o_var 0))))) (w_or1 (t_cmp (od_ne c.u64) (o_e (e_bi (bi_len E.z_len) (lo_cons (o_var 0) lo_nil))) (o_e e_int)))))
     (s_cons (s_ret e_bl)
     s_nil)
     s_nil)
    (s_cons (s_if (t_cmp (od_eq c.u64) (o_e (e_ix c (o_var 0) (o_e e_int))) (o_e e_str))
     (s_cons (s_ret (e_call c (h_is_number E) (la_cons (r_f (e_ix c (o_var 0) (o_e e_int))) (la_cons (r_f (e_glo E.g_MOST_NUMBER)) la_nil))))
     s_nil)
     s_nil)
    (s_cons (s_ret (e_and (e_cmp (od_in c.u65) (o_e (e_ix c (o_var 0) (o_e e_int))) (o_e (e_tup (l_cons e_str (l_cons e_str l_nil))))) (e_and1 (e_call c (h_is_place E) (la_cons (r_f (e_ix c (o_var 0) (o_e e_int))) la_nil)))))
    s_nil))))
theorem sc_is_statement : FnScope ["thing", "is_kind", "source"] ["thing", "is_kind"] (defScope S_is_statement) := ⟨rfl, rfl, rfl, by decide +kernel, rfl, by decide +kernel, by decide +kernel⟩
theorem h_is_statement (E : En P w K mg base) : HasFn P w K mg base 4 "is_statement" [false, false] Ir.is_statement.fn := by
  obtain ⟨f, fd, Fu, hm⟩ := E.f_is_statement
  exact fn_ok (d := Ir.is_statement) Fu sc_is_statement hm rfl rfl (fun _ _ _ _ _ _ us hl => match us, hl with | [_, _], _ => rfl) fun cdv A outer s H Ex c hp =>
    (s_cons (s_if (t_or (w_or (t_not (t_of (o_e (e_isi (T := "tuple") E.z_isinstance E.z_tuple (o_var 0))))) (w_or1 (t_cmp (od_eq c.u64) (o_e (e_bi (bi_len E.z_len) (lo_cons (o_var 0) lo_nil))) (o_e e_int)))))
     (s_cons (s_ret e_bl)
     s_nil)
     s_nil)
    (s_cons (s_if (t_cmp (od_eq c.u64) (o_e (e_ix c (o_var 0) (o_e e_int))) (o_e e_str))
     (s_cons (s_ret (e_and (e_cmp (od_eq c.u64) (o_e (e_bi (bi_len E.z_len) (lo_cons (o_var 0) lo_nil))) (o_e e_int)) (e_and (e_call c (h_is_name E) (la_cons (r_f (e_ix c (o_var 0) (o_e e_int))) la_nil)) (e_and (e_cv 1 c (tb1 E) (l_cons (e_ix c (o_var 0) (o_e e_int)) l_nil)) (e_and1 (e_call c (h_is_source E) (la_cons (r_f (e_ix c (o_var 0) (o_e e_int))) la_nil)))))))
     s_nil)
     s_nil)
    (s_cons (s_if (t_cmp (od_eq c.u64) (o_e (e_ix c (o_var 0) (o_e e_int))) (o_e e_str))
     (s_cons (s_ret (e_and (e_cmp (od_eq c.u64) (o_e (e_bi (bi_len E.z_len) (lo_cons (o_var 0) lo_nil))) (o_e e_int)) (e_and (e_call c (h_is_place E) (la_cons (r_f (e_ix c (o_var 0) (o_e e_int))) la_nil)) (e_and1 (e_call c (h_is_source E) (la_cons (r_f (e_ix c (o_var 0) (o_e e_int))) la_nil))))))
     s_nil)
     s_nil)
    (s_cons (s_if (t_or (w_or (t_cmp (od_ne c.u64) (o_e (e_ix c (o_var 0) (o_e e_int))) (o_e e_str)) (w_or (t_cmp (od_ne c.u64) (o_e (e_bi (bi_len E.z_len) (lo_cons (o_var 0) lo_nil))) (o_e e_int)) (w_or1 (t_not (t_of (o_e (e_call c (h_is_name E) (la_cons (r_f (e_ix c (o_var 0) (o_e e_int))) la_nil)))))))))
     (s_cons (s_ret e_bl)
     s_nil)
     s_nil)
    (s_cons (s_ret (e_and (e_isi (T := "list") E.z_isinstance E.z_list (o_e (e_ix c (o_var 0) (o_e e_int)))) (e_and1 (e_bi (bi_all c.calm E.z_all) (lo_cons (o_e (e_lc (own := [("source", 2)]) c (i_val (e_ix c (o_var 0) (o_e e_int))) (fun _ _ _ _ _ => (g_nm 2 (c.blk))) (fun _ _ _ _ _ => c_no) (fun _ _ _ _ _ => (e_call (c.blk) (h_is_source E) (la_cons (r_f (e_var 2)) la_nil))))) lo_nil)))))
    s_nil)))))
theorem sc__is_block : FnScope ["thing", "most", "is_kind", "statement"] ["thing", "most", "is_kind"] (defScope S__is_block) := ⟨rfl, rfl, rfl, by decide +kernel, rfl, by decide +kernel, by decide +kernel⟩
theorem h__is_block (E : En P w K mg base) : HasFn P w K mg base 5 "_is_block" [false, false, false] Ir._is_block.fn := by
  obtain ⟨f, fd, Fu, hm⟩ := E.f__is_block
  exact fn_ok (d := Ir._is_block) Fu sc__is_block hm rfl rfl (fun _ _ _ _ _ _ us hl => match us, hl with | [_, _, _], _ => rfl) fun cdv A outer s H Ex c hp =>
    (s_cons (s_if (t_or (w_or (t_not (t_of (o_e (e_isi (T := "list") E.z_isinstance E.z_list (o_var 0))))) (w_or1 (t_cmp od_gt (o_e (e_bi (bi_len E.z_len) (lo_cons (o_var 0) lo_nil))) (o_var 1)))))
     (s_cons (s_ret e_bl)
     s_nil)
     s_nil)
    (s_cons (s_ret (e_bi (bi_all c.calm E.z_all) (lo_cons (o_e (e_lc (own := [("statement", 3)]) c (i_val (e_var 0)) (fun _ _ _ _ _ => (g_nm 3 (c.blk))) (fun _ _ _ _ _ => c_no) (fun _ _ _ _ _ => (e_call (c.blk) (h_is_statement E) (la_cons (r_f (e_var 3)) (la_cons (r_f (e_var 2)) la_nil)))))) lo_nil)))
    s_nil))
theorem sc__made : FnScope ["statements", "statement"] ["statements"] (defScope S__made) := ⟨rfl, rfl, rfl, by decide +kernel, rfl, by decide +kernel, by decide +kernel⟩
theorem h__made (E : En P w K mg base) : HasFn P w K mg base 1 "_made" [false] Ir._made.fn := by
  obtain ⟨f, fd, Fu, hm⟩ := E.f__made
  exact fn_ok (d := Ir._made) Fu sc__made hm rfl rfl (fun _ _ _ _ _ _ us hl => match us, hl with | [_], _ => rfl) fun cdv A outer s H Ex c hp =>
    (s_cons (s_ret (e_fz (e_lc (own := [("statement", 1)]) c (i_val (e_var 0)) (fun _ _ _ _ _ => (g_nm 1 (c.blk))) (fun _ _ _ _ _ => (c_if (t_cmp (od_eq (c.blk).u64) (o_e (e_ix (c.blk) (o_var 1) (o_e e_int))) (o_e e_str)))) (fun _ _ _ _ _ => (e_ix (c.blk) (o_var 1) (o_e e_int))))))
    s_nil)
theorem sc_names_of : FnScope ["functions", "statements", "names", "function", "name", "kind"] ["functions", "statements"] (defScope S_names_of) := ⟨rfl, rfl, rfl, by decide +kernel, rfl, by decide +kernel, by decide +kernel⟩
theorem h_names_of (E : En P w K mg base) : HasFn P w K mg base 2 "names_of" [false, false] Ir.names_of.fn := by
  obtain ⟨f, fd, Fu, hm⟩ := E.f_names_of
  exact fn_ok (d := Ir.names_of) Fu sc_names_of hm rfl rfl (fun _ _ _ _ _ _ us hl => match us, hl with | [_, _], _ => rfl) fun cdv A outer s H Ex c hp =>
    (s_cons (s_asg 2 c (e_lst l_nil))
    (s_cons (s_for c hp (i_val (e_var 0)) (g_nm 3 c)
     (s_cons (s_ext 2 (pv 2) (e_fz (e_bop od_add (o_e (e_lc (own := [("name", 4), ("kind", 5)]) c (i_val (e_att E.at_params_Function (e_var 3))) (fun _ _ _ _ _ => (g_tp (c.blk) (gs_cons (g_nm 4 (c.blk)) (gs_cons (g_nm 5 (c.blk)) gs_nil)))) (fun _ _ _ _ _ => c_no) (fun _ _ _ _ _ => (e_var 4)))) (o_e (e_call c (h__made E) (la_cons (r_f (e_att E.at_body_Function (e_var 3))) la_nil))))))
     s_nil))
    (s_cons (s_ret (e_fz (e_bop od_add (o_var 2) (o_e (e_call c (h__made E) (la_cons (r_f (e_var 1)) la_nil))))))
    s_nil)))
theorem sc__is_parameter : FnScope ["thing", "is_kind"] ["thing", "is_kind"] (defScope S__is_parameter) := ⟨rfl, rfl, rfl, by decide +kernel, rfl, by decide +kernel, by decide +kernel⟩
theorem h__is_parameter (E : En P w K mg base) : HasFn P w K mg base 4 "_is_parameter" [false, false] Ir._is_parameter.fn := by
  obtain ⟨f, fd, Fu, hm⟩ := E.f__is_parameter
  exact fn_ok (d := Ir._is_parameter) Fu sc__is_parameter hm rfl rfl (fun _ _ _ _ _ _ us hl => match us, hl with | [_, _], _ => rfl) fun cdv A outer s H Ex c hp =>
    (s_cons (s_ret (e_and (e_isi (T := "tuple") E.z_isinstance E.z_tuple (o_var 0)) (e_and (e_cmp (od_eq c.u64) (o_e (e_bi (bi_len E.z_len) (lo_cons (o_var 0) lo_nil))) (o_e e_int)) (e_and (e_call c (h_is_name E) (la_cons (r_f (e_ix c (o_var 0) (o_e e_int))) la_nil)) (e_and1 (e_cv 1 c (tb1 E) (l_cons (e_ix c (o_var 0) (o_e e_int)) l_nil)))))))
    s_nil)
theorem sc__is_function : FnScope ["thing", "is_kind", "told"] ["thing", "is_kind"] (defScope S__is_function) := ⟨rfl, rfl, rfl, by decide +kernel, rfl, by decide +kernel, by decide +kernel⟩
theorem h__is_function (E : En P w K mg base) : HasFn P w K mg base 6 "_is_function" [false, false] Ir._is_function.fn := by
  obtain ⟨f, fd, Fu, hm⟩ := E.f__is_function
  exact fn_ok (d := Ir._is_function) Fu sc__is_function hm rfl rfl (fun _ _ _ _ _ _ us hl => match us, hl with | [_, _], _ => rfl) fun cdv A outer s H Ex c hp =>
    (s_cons (s_if (t_or (w_or (t_not (t_of (o_e (e_isC (cn := "Function") E.z_isinstance E.i_Function (o_var 0))))) (w_or (t_not (t_of (o_e (e_call c (h_is_name E) (la_cons (r_f (e_att E.at_name_Function (e_var 0))) la_nil))))) (w_or1 (t_not (t_of (o_e (e_isi (T := "list") E.z_isinstance E.z_list (o_e (e_att E.at_params_Function (e_var 0)))))))))))
     (s_cons (s_ret e_bl)
     s_nil)
     s_nil)
    (s_cons (s_if (t_or (w_or (t_cmp od_gt (o_e (e_bi (bi_len E.z_len) (lo_cons (o_e (e_att E.at_params_Function (e_var 0))) lo_nil))) (o_e (e_glo E.g_MOST_PARAMETERS))) (w_or1 (t_not (t_of (o_e (e_bi (bi_all c.calm E.z_all) (lo_cons (o_e (e_lc (own := [("told", 2)]) c (i_val (e_att E.at_params_Function (e_var 0))) (fun _ _ _ _ _ => (g_nm 2 (c.blk))) (fun _ _ _ _ _ => c_no) (fun _ _ _ _ _ => (e_call (c.blk) (h__is_parameter E) (la_cons (r_f (e_var 2)) (la_cons (r_f (e_var 1)) la_nil)))))) lo_nil))))))))
     (s_cons (s_ret e_bl)
     s_nil)
     s_nil)
    (s_cons (s_ret (e_call c (h__is_block E) (la_cons (r_f (e_att E.at_body_Function (e_var 0))) (la_cons (r_f (e_glo E.g_MOST_BODY)) (la_cons (r_f (e_var 1)) la_nil)))))
    s_nil)))
theorem sc__is_program : FnScope ["functions", "statements", "is_kind", "names", "place", "function", "name"] ["functions", "statements", "is_kind"] (defScope S__is_program) := ⟨rfl, rfl, rfl, by decide +kernel, rfl, by decide +kernel, by decide +kernel⟩
theorem h__is_program (E : En P w K mg base) : HasFn P w K mg base 7 "_is_program" [false, false, false] Ir._is_program.fn := by
  obtain ⟨f, fd, Fu, hm⟩ := E.f__is_program
  exact fn_ok (d := Ir._is_program) Fu sc__is_program hm rfl rfl (fun _ _ _ _ _ _ us hl => match us, hl with | [_, _, _], _ => rfl) fun cdv A outer s H Ex c hp =>
    (s_cons (s_if (t_or (w_or (t_not (t_of (o_e (e_isi (T := "list") E.z_isinstance E.z_list (o_var 0))))) (w_or1 (t_cmp od_gt (o_e (e_bi (bi_len E.z_len) (lo_cons (o_var 0) lo_nil))) (o_e (e_glo E.g_MOST_FUNCTIONS))))))
     (s_cons (s_ret e_bl)
     s_nil)
     s_nil)
    (s_cons (s_if (t_not (t_of (o_e (e_bi (bi_all c.calm E.z_all) (lo_cons (o_e (e_lc (own := [("function", 5)]) c (i_val (e_var 0)) (fun _ _ _ _ _ => (g_nm 5 (c.blk))) (fun _ _ _ _ _ => c_no) (fun _ _ _ _ _ => (e_call (c.blk) (h__is_function E) (la_cons (r_f (e_var 5)) (la_cons (r_f (e_var 2)) la_nil)))))) lo_nil)))))
     (s_cons (s_ret e_bl)
     s_nil)
     s_nil)
    (s_cons (s_if (t_not (t_of (o_e (e_call c (h__is_block E) (la_cons (r_f (e_var 1)) (la_cons (r_f (e_glo E.g_MOST_STATEMENTS)) (la_cons (r_f (e_var 2)) la_nil)))))))
     (s_cons (s_ret e_bl)
     s_nil)
     s_nil)
    (s_cons (s_asg 3 c (e_bop od_add (o_e (e_lc (own := [("function", 5)]) c (i_val (e_var 0)) (fun _ _ _ _ _ => (g_nm 5 (c.blk))) (fun _ _ _ _ _ => c_no) (fun _ _ _ _ _ => (e_att E.at_name_Function (e_var 5))))) (o_e (e_call c (h_names_of E) (la_cons (r_f (e_var 0)) (la_cons (r_f (e_var 1)) la_nil))))))
    (s_cons (s_if (t_cmp (od_ne c.u64) (o_e (e_bi (bi_len E.z_len) (lo_cons (o_e (e_dc (own := [("name", 6)]) c (i_val (e_var 3)) (fun _ _ _ _ _ => (g_nm 6 (c.blk))) (fun _ _ _ _ _ => (e_var 6)) (fun _ _ _ _ _ => e_bl))) lo_nil))) (o_e (e_bi (bi_len E.z_len) (lo_cons (o_var 3) lo_nil))))
     (s_cons (s_ret e_bl)
     s_nil)
     s_nil)
    (s_cons (s_for c hp (i_enum E.z_enumerate (e_var 0)) (g_tp c (gs_cons (g_nm 4 c) (gs_cons (g_nm 5 c) gs_nil)))
     (s_cons (s_if (t_not (t_of (o_e (e_call c (h__are_calls E) (la_cons (r_f (e_att E.at_body_Function (e_var 5))) (la_cons (r_f (e_sl (o_var 0) po_n (po_s (e_var 4)))) la_nil))))))
      (s_cons (s_ret e_bl)
      s_nil)
      s_nil)
     s_nil))
    (s_cons (s_ret (e_call c (h__are_calls E) (la_cons (r_f (e_var 1)) (la_cons (r_f (e_var 0)) la_nil))))
    s_nil)))))))
theorem sc_Program___init__ : FnScope ["self", "functions", "statements", "told"] ["self", "functions", "statements"] (defScope S_Program___init__) := ⟨rfl, rfl, rfl, by decide +kernel, rfl, by decide +kernel, by decide +kernel⟩
theorem m_Program (E : En P w K mg base) : HasMk P w K mg base 8 "Program" 2 Ir.Program___init__.fn := by
  obtain ⟨CE, fE, TE⟩ := E.re
  obtain ⟨C, fI, fd, Fu, hm, hMk⟩ := E.k_Program
  exact ⟨C, fI, fd, ["self", "functions", "statements"], fn_ok0 (d := Ir.Program___init__) Fu sc_Program___init__ rfl rfl fun cdv A outer s H Ex c hp =>
    (s_cons (s_if (t_and (w_and (t_not (t_of (o_e (e_call c (h__is_program E) (la_cons (r_f (e_var 1)) (la_cons (r_f (e_var 2)) (la_cons (r_f (e_fn (h_is_type E))) la_nil))))))) (w_and1 (t_not (t_of (o_e (e_call c (h__is_program E) (la_cons (r_f (e_var 1)) (la_cons (r_f (e_var 2)) (la_cons (r_f (e_fn (h_is_depth E))) la_nil))))))))))
     (s_cons (s_raise c TE e_str)
     s_nil)
     s_nil)
    (s_cons (s_sta 0 E.a_Program_functions (e_fz (e_lc (own := [("told", 3)]) c (i_val (e_var 1)) (fun _ _ _ _ _ => (g_nm 3 (c.blk))) (fun _ _ _ _ _ => c_no) (fun _ _ _ _ _ => (e_fz (e_mk (c.blk) (m_Function E) (l_cons (e_att E.at_name_Function (e_var 3)) (l_cons (e_att E.at_params_Function (e_var 3)) (l_cons (e_att E.at_body_Function (e_var 3)) l_nil)))))))))
    (s_cons (s_sta 0 E.a_Program_statements (e_call c (h_copied E) (la_cons (r_f (e_var 2)) la_nil)))
    s_nil))), hm, hMk, Fu.binds (fun _ _ _ _ _ _ us hl => match us, hl with | [_, _, _], _ => rfl)⟩
theorem sc__empty : FnScope ["kind"] ["kind"] (defScope S__empty) := ⟨rfl, rfl, rfl, by decide +kernel, rfl, by decide +kernel, by decide +kernel⟩
theorem h__empty (E : En P w K mg base) : HasFn P w K mg base 1 "_empty" [false] Ir._empty.fn := by
  obtain ⟨f, fd, Fu, hm⟩ := E.f__empty
  exact fn_ok (d := Ir._empty) Fu sc__empty hm rfl rfl (fun _ _ _ _ _ _ us hl => match us, hl with | [_], _ => rfl) fun cdv A outer s H Ex c hp =>
    (s_cons (s_ret (e_if (t_cmp od_gt (o_e (e_bi (bi_len E.z_len) (lo_cons (o_var 0) lo_nil))) (o_e e_int)) (e_tup (l_cons e_str l_nil)) (e_tup (l_cons e_str (l_cons e_int l_nil)))))
    s_nil)
theorem sc__converter : FnScope ["pairs", "letters", "level", "mark", "before", "inner", "address", "cell", "put", "last", "one", "two", "outer", "other"] ["pairs", "letters", "level"] (defScope S__converter) := ⟨rfl, rfl, rfl, by decide +kernel, rfl, by decide +kernel, by decide +kernel⟩
theorem h__converter (E : En P w K mg base) : ∀ n : Nat, HasFn P w K mg base (1 + n) "_converter" [false, false, false] (Ir._converterN n)
  | 0 => by
    obtain ⟨f, fd, Fu, hm⟩ := E.f__converter
    exact fn_none Fu sc__converter hm (fun _ _ _ _ _ _ us hl => match us, hl with | [_, _, _], _ => rfl)
  | n + 1 => by
    have ih := h__converter E n
    obtain ⟨f, fd, Fu, hm⟩ := E.f__converter
    refine fn_ok (k := 1 + n) (d := Ir._converter (Ir._converterN n)) Fu sc__converter hm rfl rfl (fun _ _ _ _ _ _ us hl => match us, hl with | [_, _, _], _ => rfl) fun cdv A outer s H Ex c hp => ?_
    have hk : decide (1 + n ≤ 1 + n) = true := decide_eq_true (Nat.le_refl _)
    exact (s_cons (s_asgT (e_ix c (o_var 0) (o_var 2)) (g_tp c (gs_cons (g_nm 10 c) (gs_cons (g_nm 11 c) gs_nil))))
    (s_cons (s_asg 3 c (e_ix c (o_e e_str) (o_var 2)))
    (s_cons (s_if (t_cmp (od_eq c.u64) (o_var 2) (o_e e_int))
     (s_cons (s_ret (e_fz (e_lst (l_cons (e_tup (l_cons e_str (l_cons (e_bop od_add (o_e e_str) (o_var 3)) (l_cons (e_bop od_add (o_e (e_tup (l_cons e_str l_nil))) (o_var 11)) (l_cons (e_tup (l_cons e_str (l_cons (e_tup (l_cons (e_bop od_add (o_e e_str) (o_var 3)) (l_cons e_int l_nil))) l_nil))) l_nil))))) l_nil))))
     s_nil)
     s_nil)
    (s_cons (s_asgT (e_ix c (o_var 0) (o_e (e_bop od_sub (o_var 2) (o_e e_int)))) (g_tp c (gs_cons (g_nm 12 c) (gs_cons (g_nm 13 c) gs_nil))))
    (s_cons (s_asg 4 c (e_ix c (o_e e_str) (o_e (e_bop od_sub (o_var 2) (o_e e_int)))))
    (s_cons (s_asg 5 c (e_call c ih (la_cons (r_f (e_var 0)) (la_cons (r_f (e_var 1)) (la_cons (r_f (e_bop od_sub (o_var 2) (o_e e_int))) la_nil))) hk))
    (s_cons (s_asg 6 c (e_tup (l_cons e_str (l_cons (e_bop od_add (o_e e_str) (o_var 4)) (l_cons (e_bop od_add (o_e (e_tup (l_cons e_str l_nil))) (o_var 12)) (l_cons (e_tup (l_cons e_str (l_cons (e_tup (l_cons (e_bop od_add (o_e e_str) (o_var 4)) (l_cons e_int l_nil))) l_nil))) l_nil))))))
    (s_cons (s_if (t_cmp (od_eq c.u64) (o_e (e_ix c (o_var 1) (o_e (e_bop od_sub (o_var 2) (o_e e_int))))) (o_e e_str))
     (s_cons (s_asg 7 c (e_tup (l_cons e_str (l_cons (e_bop od_add (o_e e_str) (o_var 4)) (l_cons (e_var 12) (l_cons (e_tup (l_cons e_str (l_cons (e_tup (l_cons (e_bop od_add (o_e e_str) (o_var 3)) (l_cons e_int l_nil))) l_nil))) l_nil))))))
     (s_cons (s_asg 9 c (e_tup (l_cons e_str (l_cons (e_bop od_add (o_e e_str) (o_var 3)) (l_cons (e_bop od_add (o_e (e_tup (l_cons e_str l_nil))) (o_var 11)) (l_cons (e_tup (l_cons e_str (l_cons (e_tup (l_cons (e_bop od_add (o_e e_str) (o_var 4)) (l_cons e_int l_nil))) l_nil))) l_nil))))))
     (s_cons (s_ret (e_fz (e_bop od_add (o_e (e_bop od_add (o_e (e_lst (l_cons (e_var 7) (l_cons (e_var 6) l_nil)))) (o_var 5))) (o_e (e_lst (l_cons (e_var 9) l_nil))))))
     s_nil)))
     s_nil)
    (s_cons (s_asg 7 c (e_tup (l_cons e_str (l_cons (e_bop od_add (o_e e_str) (o_var 4)) (l_cons (e_bop od_add (o_e (e_tup (l_cons e_str l_nil))) (o_e (e_sl (o_var 12) (po_s e_int) po_n))) (l_cons (e_call c (h__empty E) (la_cons (r_f (e_sl (o_var 12) (po_s e_int) po_n)) la_nil) (decide_eq_true (by omega))) l_nil))))))
    (s_cons (s_asg 8 c (e_tup (l_cons e_str (l_cons (e_tup (l_cons (e_bop od_add (o_e e_str) (o_var 4)) (l_cons e_int l_nil))) (l_cons (e_tup (l_cons e_str (l_cons (e_tup (l_cons (e_bop od_add (o_e e_str) (o_var 3)) (l_cons e_int l_nil))) l_nil))) l_nil)))))
    (s_cons (s_asg 9 c (e_tup (l_cons e_str (l_cons (e_bop od_add (o_e e_str) (o_var 3)) (l_cons (e_bop od_add (o_e (e_tup (l_cons e_str l_nil))) (o_var 11)) (l_cons (e_tup (l_cons e_str (l_cons (e_tup (l_cons (e_bop od_add (o_e e_str) (o_var 4)) (l_cons e_int l_nil))) l_nil))) l_nil))))))
    (s_cons (s_ret (e_fz (e_bop od_add (o_e (e_bop od_add (o_e (e_lst (l_cons (e_var 7) (l_cons (e_var 6) l_nil)))) (o_var 5))) (o_e (e_lst (l_cons (e_var 8) (l_cons (e_var 9) l_nil)))))))
    s_nil))))))))))))
theorem sc_breaking : FnScope ["one", "two", "told", "pairs", "level", "mark", "statements", "letters", "letter", "first", "last"] ["one", "two"] (defScope S_breaking) := ⟨rfl, rfl, rfl, by decide +kernel, rfl, by decide +kernel, by decide +kernel⟩
theorem h_breaking (E : En P w K mg base) : HasFn P w K mg base 12 "breaking" [false, false] Ir.breaking.fn := by
  obtain ⟨f, fd, Fu, hm⟩ := E.f_breaking
  exact fn_ok (d := Ir.breaking) Fu sc_breaking hm rfl rfl (fun _ _ _ _ _ _ us hl => match us, hl with | [_, _], _ => rfl) fun cdv A outer s H Ex c hp =>
    (s_cons (s_asg 2 c (e_call c (h_bar E) (la_cons (r_f (e_var 0)) (la_cons (r_f (e_var 1)) la_nil))))
    (s_cons (s_if (t_cmp od_is (o_var 2) (o_e e_non))
     (s_cons (s_ret e_non)
     s_nil)
     s_nil)
    (s_cons (s_asgT (e_var 2) (g_tp c (gs_cons (g_nm 7 c) (gs_cons (g_nm 8 c) gs_nil))))
    (s_cons (s_asg 3 c (e_call c (h__steps E) (la_cons (r_f (e_var 0)) (la_cons (r_f (e_var 1)) (la_cons (r_f (e_var 7)) la_nil)))))
    (s_cons (s_asg 4 c (e_bi (bi_len E.z_len) (lo_cons (o_var 7) lo_nil)))
    (s_cons (s_asg 5 c (e_ix c (o_e e_str) (o_var 4)))
    (s_cons (s_asgT (e_ix c (o_var 3) (o_var 4)) (g_tp c (gs_cons (g_nm 9 c) (gs_cons (g_nm 10 c) gs_nil))))
    (s_cons (s_asg 6 c (e_lst (l_cons (e_tup (l_cons e_str (l_cons e_str (l_cons (e_var 9) (l_cons (e_call c (h__empty E) (la_cons (r_f (e_sl (o_var 9) (po_s e_int) po_n)) la_nil)) l_nil))))) (l_cons (e_tup (l_cons e_str (l_cons (e_bop od_add (o_e e_str) (o_var 5)) (l_cons (e_bop od_add (o_e (e_tup (l_cons e_str l_nil))) (o_var 9)) (l_cons (e_tup (l_cons e_str (l_cons (e_tup (l_cons e_str (l_cons e_int l_nil))) l_nil))) l_nil))))) l_nil))))
    (s_cons (s_ext 6 (pv 6) (e_call c (h__converter E 10) (la_cons (r_f (e_var 3)) (la_cons (r_f (e_var 7)) (la_cons (r_f (e_var 4)) la_nil)))))
    (s_cons (s_if (t_cmp (od_eq c.u64) (o_var 8) (o_e e_str))
     (s_cons (s_app 6 (pv 6) (e_tup (l_cons e_str (l_cons (e_tup (l_cons (e_bop od_add (o_e e_str) (o_var 5)) (l_cons e_int l_nil))) (l_cons (e_call c (h__empty E) (la_cons (r_f (e_sl (o_var 10) (po_s e_int) po_n)) la_nil)) l_nil)))))
     s_nil)
     (s_cons (s_app 6 (pv 6) (e_tup (l_cons e_str (l_cons e_str (l_cons (e_bop od_add (o_e (e_tup (l_cons e_str l_nil))) (o_e (e_sl (o_var 10) (po_s e_int) po_n))) (l_cons (e_tup (l_cons e_str (l_cons (e_tup (l_cons (e_bop od_add (o_e e_str) (o_var 5)) (l_cons e_int l_nil))) l_nil))) l_nil))))))
     s_nil))
    (s_cons (s_ret (e_fz (e_mk c (m_Program E) (l_cons (e_lst l_nil) (l_cons (e_var 6) l_nil)))))
    s_nil)))))))))))
theorem sc_function_of : FnScope ["functions", "name", "function"] ["functions", "name"] (defScope S_function_of) := ⟨rfl, rfl, rfl, by decide +kernel, rfl, by decide +kernel, by decide +kernel⟩
theorem h_function_of (E : En P w K mg base) : HasFn P w K mg base 1 "function_of" [false, false] Ir.function_of.fn := by
  obtain ⟨f, fd, Fu, hm⟩ := E.f_function_of
  exact fn_ok (d := Ir.function_of) Fu sc_function_of hm rfl rfl (fun _ _ _ _ _ _ us hl => match us, hl with | [_, _], _ => rfl) fun cdv A outer s H Ex c hp =>
    (s_cons (s_for c hp (i_val (e_var 0)) (g_nm 2 c)
     (s_cons (s_if (t_cmp (od_eq c.u64) (o_e (e_att E.at_name_Function (e_var 2))) (o_var 1))
      (s_cons (s_ret (e_var 2))
      s_nil)
      s_nil)
     s_nil))
    (s_cons (s_ret e_non)
    s_nil))
theorem sc_place_fault : FnScope ["known", "place", "seen", "name", "stars", "right"] ["known", "place"] (defScope S_place_fault) := ⟨rfl, rfl, rfl, by decide +kernel, rfl, by decide +kernel, by decide +kernel⟩
theorem h_place_fault (E : En P w K mg base) : HasFn P w K mg base 1 "place_fault" [true, false] Ir.place_fault.fn := by
  obtain ⟨f, fd, Fu, hm⟩ := E.f_place_fault
  exact fn_ok (d := Ir.place_fault) Fu sc_place_fault hm rfl rfl (fun _ _ _ _ _ _ us hl => match us, hl with | [_, _], _ => rfl) fun cdv A outer s H Ex c hp =>
    (s_cons (s_asgT (e_var 1) (g_tp c (gs_cons (g_nm 3 c) (gs_cons (g_nm 4 c) gs_nil))))
    (s_cons (s_if (t_cmp (od_nin c.u65) (o_var 3) (o_var 0))
     (s_cons (s_ret e_str)
     s_nil)
     s_nil)
    (s_cons (s_asg 2 c (e_ix c (o_var 0) (o_var 3)))
    (s_cons (s_if (t_cmp od_ge (o_var 4) (o_e (e_bi (bi_len E.z_len) (lo_cons (o_var 2) lo_nil))))
     (s_cons (s_ret e_str)
     s_nil)
     s_nil)
    (s_cons (s_if (t_not (t_of (o_e (e_bi (bi_all c.calm E.z_all) (lo_cons (o_e (e_lc (own := [("right", 5)]) c (i_val (e_sl (o_var 2) po_n (po_s (e_var 4)))) (fun _ _ _ _ _ => (g_nm 5 (c.blk))) (fun _ _ _ _ _ => c_no) (fun _ _ _ _ _ => (e_cmp (od_in (c.blk).u65) (o_e e_str) (o_var 5))))) lo_nil)))))
     (s_cons (s_ret e_str)
     s_nil)
     s_nil)
    (s_cons (s_ret e_non)
    s_nil))))))
theorem sc_seen_type : FnScope ["known", "place"] ["known", "place"] (defScope S_seen_type) := ⟨rfl, rfl, rfl, by decide +kernel, rfl, by decide +kernel, by decide +kernel⟩
theorem h_seen_type (E : En P w K mg base) : HasFn P w K mg base 1 "seen_type" [true, false] Ir.seen_type.fn := by
  obtain ⟨f, fd, Fu, hm⟩ := E.f_seen_type
  exact fn_ok (d := Ir.seen_type) Fu sc_seen_type hm rfl rfl (fun _ _ _ _ _ _ us hl => match us, hl with | [_, _], _ => rfl) fun cdv A outer s H Ex c hp =>
    (s_cons (s_ret (e_fz (e_sl (o_e (e_ix c (o_var 0) (o_e (e_ix c (o_var 1) (o_e e_int))))) (po_s (e_ix c (o_var 1) (o_e e_int))) po_n)))
    s_nil)
theorem sc__conversion_fault : FnScope ["one", "two", "extra"] ["one", "two", "extra"] (defScope S__conversion_fault) := ⟨rfl, rfl, rfl, by decide +kernel, rfl, by decide +kernel, by decide +kernel⟩
theorem h__conversion_fault (E : En P w K mg base) : HasFn P w K mg base 12 "_conversion_fault" [false, false, false] Ir._conversion_fault.fn := by
  obtain ⟨f, fd, Fu, hm⟩ := E.f__conversion_fault
  exact fn_ok (d := Ir._conversion_fault) Fu sc__conversion_fault hm rfl rfl (fun _ _ _ _ _ _ us hl => match us, hl with | [_, _, _], _ => rfl) fun cdv A outer s H Ex c hp =>
    (s_cons (s_if (t_cmp (od_ne c.u64) (o_e (e_bi (bi_len E.z_len) (lo_cons (o_var 0) lo_nil))) (o_e (e_bi (bi_len E.z_len) (lo_cons (o_var 1) lo_nil))))
     (s_cons (s_ret e_str)
     s_nil)
     s_nil)
    (s_cons (s_if (t_or (w_or (t_of (o_e (e_call c (h_converts E) (la_cons (r_f (e_var 0)) (la_cons (r_f (e_var 1)) la_nil))))) (w_or1 (t_cmp (od_in c.u65) (o_e (e_tup (l_cons (e_var 0) (l_cons (e_var 1) l_nil)))) (o_var 2)))))
     (s_cons (s_ret e_non)
     s_nil)
     s_nil)
    (s_cons (s_ret e_str)
    s_nil)))
theorem sc_source_fault : FnScope ["known", "source", "wanted", "extra", "reason", "seen"] ["known", "source", "wanted", "extra"] (defScope S_source_fault) := ⟨rfl, rfl, rfl, by decide +kernel, rfl, by decide +kernel, by decide +kernel⟩
theorem h_source_fault (E : En P w K mg base) : HasFn P w K mg base 13 "source_fault" [true, false, false, false] Ir.source_fault.fn := by
  obtain ⟨f, fd, Fu, hm⟩ := E.f_source_fault
  exact fn_ok (d := Ir.source_fault) Fu sc_source_fault hm rfl rfl (fun _ _ _ _ _ _ us hl => match us, hl with | [_, _, _, _], _ => rfl) fun cdv A outer s H Ex c hp =>
    (s_cons (s_if (t_cmp (od_eq c.u64) (o_e (e_ix c (o_var 1) (o_e e_int))) (o_e e_str))
     (s_cons (s_ret (e_if (t_cmp (od_eq c.u64) (o_var 2) (o_e (e_tup l_nil))) e_non e_str))
     s_nil)
     s_nil)
    (s_cons (s_if (t_cmp (od_eq c.u64) (o_e (e_ix c (o_var 1) (o_e e_int))) (o_e e_str))
     (s_cons (s_ret (e_if (t_cmp (od_ne c.u64) (o_var 2) (o_e (e_tup l_nil))) e_non e_str))
     s_nil)
     s_nil)
    (s_cons (s_asg 4 c (e_call c (h_place_fault E) (la_cons (r_var 0) (la_cons (r_f (e_ix c (o_var 1) (o_e e_int))) la_nil))))
    (s_cons (s_if (t_cmp od_nis (o_var 4) (o_e e_non))
     (s_cons (s_ret (e_var 4))
     s_nil)
     s_nil)
    (s_cons (s_asg 5 c (e_call c (h_seen_type E) (la_cons (r_var 0) (la_cons (r_f (e_ix c (o_var 1) (o_e e_int))) la_nil))))
    (s_cons (s_if (t_cmp (od_eq c.u64) (o_e (e_ix c (o_var 1) (o_e e_int))) (o_e e_str))
     (s_cons (s_ret (e_call c (h__conversion_fault E) (la_cons (r_f (e_var 5)) (la_cons (r_f (e_var 2)) (la_cons (r_f (e_var 3)) la_nil)))))
     s_nil)
     s_nil)
    (s_cons (s_if (t_cmp (od_nin c.u65) (o_e e_str) (o_e (e_ix c (o_var 5) (o_e e_int))))
     (s_cons (s_ret e_str)
     s_nil)
     s_nil)
    (s_cons (s_ret (e_call c (h__conversion_fault E) (la_cons (r_f (e_sl (o_var 5) (po_s e_int) po_n)) (la_cons (r_f (e_var 2)) (la_cons (r_f (e_var 3)) la_nil)))))
    s_nil))))))))
theorem sc__put_fault : FnScope ["known", "place", "source", "extra", "reason", "seen"] ["known", "place", "source", "extra"] (defScope S__put_fault) := ⟨rfl, rfl, rfl, by decide +kernel, rfl, by decide +kernel, by decide +kernel⟩
theorem h__put_fault (E : En P w K mg base) : HasFn P w K mg base 14 "_put_fault" [true, false, false, false] Ir._put_fault.fn := by
  obtain ⟨f, fd, Fu, hm⟩ := E.f__put_fault
  exact fn_ok (d := Ir._put_fault) Fu sc__put_fault hm rfl rfl (fun _ _ _ _ _ _ us hl => match us, hl with | [_, _, _, _], _ => rfl) fun cdv A outer s H Ex c hp =>
    (s_cons (s_asg 4 c (e_call c (h_place_fault E) (la_cons (r_var 0) (la_cons (r_f (e_var 1)) la_nil))))
    (s_cons (s_if (t_cmp od_nis (o_var 4) (o_e e_non))
     (s_cons (s_ret (e_var 4))
     s_nil)
     s_nil)
    (s_cons (s_asg 5 c (e_call c (h_seen_type E) (la_cons (r_var 0) (la_cons (r_f (e_var 1)) la_nil))))
    (s_cons (s_if (t_cmp (od_nin c.u65) (o_e e_str) (o_e (e_ix c (o_var 5) (o_e e_int))))
     (s_cons (s_ret e_str)
     s_nil)
     s_nil)
    (s_cons (s_ret (e_call c (h_source_fault E) (la_cons (r_var 0) (la_cons (r_f (e_var 2)) (la_cons (r_f (e_sl (o_var 5) (po_s e_int) po_n)) (la_cons (r_f (e_var 3)) la_nil))))))
    s_nil)))))
theorem sc_statement_fault : FnScope ["functions", "known", "statement", "extra", "function", "source", "reason", "name", "kind"] ["functions", "known", "statement", "extra"] (defScope S_statement_fault) := ⟨rfl, rfl, rfl, by decide +kernel, rfl, by decide +kernel, by decide +kernel⟩
theorem h_statement_fault (E : En P w K mg base) : HasFn P w K mg base 15 "statement_fault" [false, true, false, false] Ir.statement_fault.fn := by
  obtain ⟨f, fd, Fu, hm⟩ := E.f_statement_fault
  exact fn_ok (d := Ir.statement_fault) Fu sc_statement_fault hm rfl rfl (fun _ _ _ _ _ _ us hl => match us, hl with | [_, _, _, _], _ => rfl) fun cdv A outer s H Ex c hp =>
    (s_cons (s_if (t_cmp (od_eq c.u64) (o_e (e_ix c (o_var 2) (o_e e_int))) (o_e e_str))
     (s_cons (s_ret (e_call c (h_source_fault E) (la_cons (r_var 1) (la_cons (r_f (e_ix c (o_var 2) (o_e e_int))) (la_cons (r_f (e_sl (o_e (e_ix c (o_var 2) (o_e e_int))) (po_s e_int) po_n)) (la_cons (r_f (e_var 3)) la_nil))))))
     s_nil)
     s_nil)
    (s_cons (s_if (t_cmp (od_eq c.u64) (o_e (e_ix c (o_var 2) (o_e e_int))) (o_e e_str))
     (s_cons (s_ret (e_call c (h__put_fault E) (la_cons (r_var 1) (la_cons (r_f (e_ix c (o_var 2) (o_e e_int))) (la_cons (r_f (e_ix c (o_var 2) (o_e e_int))) (la_cons (r_f (e_var 3)) la_nil))))))
     s_nil)
     s_nil)
    (s_cons (s_asg 4 c (e_call c (h_function_of E) (la_cons (r_f (e_var 0)) (la_cons (r_f (e_ix c (o_var 2) (o_e e_int))) la_nil))))
    (s_cons (s_for c hp (i_zip E.z_zip (e_att E.at_params_Function (e_var 4)) (e_ix c (o_var 2) (o_e e_int))) (g_tp c (gs_cons (g_tp c (gs_cons (g_nm 7 c) (gs_cons (g_nm 8 c) gs_nil))) (gs_cons (g_nm 5 c) gs_nil)))
     (s_cons (s_asg 6 c (e_call c (h_source_fault E) (la_cons (r_var 1) (la_cons (r_f (e_var 5)) (la_cons (r_f (e_sl (o_var 8) (po_s e_int) po_n)) (la_cons (r_f (e_var 3)) la_nil))))))
     (s_cons (s_if (t_cmp od_nis (o_var 6) (o_e e_non))
      (s_cons (s_ret (e_var 6))
      s_nil)
      s_nil)
     s_nil)))
    (s_cons (s_ret e_non)
    s_nil)))))
theorem sc_block_faults : FnScope ["functions", "name", "known", "statements", "extra", "found", "place", "statement", "reason"] ["functions", "name", "known", "statements", "extra"] (defScope S_block_faults) := ⟨rfl, rfl, rfl, by decide +kernel, rfl, by decide +kernel, by decide +kernel⟩
theorem h_block_faults (E : En P w K mg base) : HasFn P w K mg base 16 "block_faults" [false, false, true, false, false] Ir.block_faults.fn := by
  obtain ⟨f, fd, Fu, hm⟩ := E.f_block_faults
  exact fn_ok (d := Ir.block_faults) Fu sc_block_faults hm rfl rfl (fun _ _ _ _ _ _ us hl => match us, hl with | [_, _, _, _, _], _ => rfl) fun cdv A outer s H Ex c hp =>
    (s_cons (s_asg 5 c (e_lst l_nil))
    (s_cons (s_for c hp (i_enum E.z_enumerate (e_var 3)) (g_tp c (gs_cons (g_nm 6 c) (gs_cons (g_nm 7 c) gs_nil)))
     (s_cons (s_asg 8 c (e_call c (h_statement_fault E) (la_cons (r_f (e_var 0)) (la_cons (r_var 2) (la_cons (r_f (e_var 7)) (la_cons (r_f (e_var 4)) la_nil))))))
     (s_cons (s_if (t_cmp od_nis (o_var 8) (o_e e_non))
      (s_cons (s_app 5 (pv 5) (e_tup (l_cons (e_var 1) (l_cons (e_var 6) (l_cons (e_var 8) l_nil)))))
      s_nil)
      s_nil)
     (s_cons (s_if (t_cmp (od_eq c.u64) (o_e (e_ix c (o_var 7) (o_e e_int))) (o_e e_str))
      (s_cons (s_sto 2 c (o_e (e_ix c (o_var 7) (o_e e_int))) (e_ix c (o_var 7) (o_e e_int)) (pv 2))
      s_nil)
      s_nil)
     s_nil))))
    (s_cons (s_ret (e_var 5))
    s_nil)))
theorem sc_faults : FnScope ["program", "extra", "found", "function", "known", "name", "kind"] ["program", "extra"] (defScope S_faults) := ⟨rfl, rfl, rfl, by decide +kernel, rfl, by decide +kernel, by decide +kernel⟩
theorem h_faults (E : En P w K mg base) : HasFn P w K mg base 17 "faults" [false, false] Ir.faults.fn := by
  obtain ⟨f, fd, Fu, hm⟩ := E.f_faults
  exact fn_ok (d := Ir.faults) Fu sc_faults hm rfl rfl (fun _ _ _ _ _ _ us hl => match us, hl with | [_, _], _ => rfl) fun cdv A outer s H Ex c hp =>
    (s_cons (s_asg 2 c (e_lst l_nil))
    (s_cons (s_for c hp (i_val (e_att E.at_functions_Program (e_var 0))) (g_nm 3 c)
     (s_cons (s_dc 4 (own := [("name", 5), ("kind", 6)]) c (i_val (e_att E.at_params_Function (e_var 3))) (fun _ _ _ _ _ => (g_tp (c.blk) (gs_cons (g_nm 5 (c.blk)) (gs_cons (g_nm 6 (c.blk)) gs_nil)))) (fun _ _ _ _ _ => (e_var 5)) (fun _ _ _ _ _ => (e_var 6)))
     (s_cons (s_ext 2 (pv 2) (e_call c (h_block_faults E) (la_cons (r_f (e_att E.at_functions_Program (e_var 0))) (la_cons (r_f (e_att E.at_name_Function (e_var 3))) (la_cons (r_var 4) (la_cons (r_f (e_att E.at_body_Function (e_var 3))) (la_cons (r_f (e_var 1)) la_nil)))))))
     s_nil)))
    (s_cons (s_ret (e_fz (e_bop od_add (o_var 2) (o_e (e_call c (h_block_faults E) (la_cons (r_f (e_att E.at_functions_Program (e_var 0))) (la_cons (r_f e_str) (la_cons (r_t e_dnew) (la_cons (r_f (e_att E.at_statements_Program (e_var 0))) (la_cons (r_f (e_var 1)) la_nil))))))))))
    s_nil)))
theorem sc_is_let_by : FnScope ["program", "extra"] ["program", "extra"] (defScope S_is_let_by) := ⟨rfl, rfl, rfl, by decide +kernel, rfl, by decide +kernel, by decide +kernel⟩
theorem h_is_let_by (E : En P w K mg base) : HasFn P w K mg base 18 "is_let_by" [false, false] Ir.is_let_by.fn := by
  obtain ⟨f, fd, Fu, hm⟩ := E.f_is_let_by
  exact fn_ok (d := Ir.is_let_by) Fu sc_is_let_by hm rfl rfl (fun _ _ _ _ _ _ us hl => match us, hl with | [_, _], _ => rfl) fun cdv A outer s H Ex c hp =>
    (s_cons (s_ret (e_not (o_e (e_call c (h_faults E) (la_cons (r_f (e_var 0)) (la_cons (r_f (e_var 1)) la_nil))))))
    s_nil)
theorem sc_World___init__ : FnScope ["self"] ["self"] (defScope S_World___init__) := ⟨rfl, rfl, rfl, by decide +kernel, rfl, by decide +kernel, by decide +kernel⟩
theorem m_World (E : En P w K mg base) : HasMk P w K mg base 1 "World" 0 Ir.World___init__.fn := by
  obtain ⟨C, fI, fd, Fu, hm, hMk⟩ := E.k_World
  exact ⟨C, fI, fd, ["self"], fn_ok0 (d := Ir.World___init__) Fu sc_World___init__ rfl rfl fun cdv A outer s H Ex c hp =>
    (s_cons (s_sta 0 E.a_World_things (e_lst l_nil))
    (s_cons (s_sta 0 E.a_World_breaches (e_lst l_nil))
    (s_cons (s_sta 0 E.a_World_executed e_int)
    s_nil))), hm, hMk, Fu.binds (fun _ _ _ _ _ _ us hl => match us, hl with | [_], _ => rfl)⟩
theorem sc_World_read : FnScope ["self", "number", "thing"] ["self", "number"] (defScope S_World_read) := ⟨rfl, rfl, rfl, by decide +kernel, rfl, by decide +kernel, by decide +kernel⟩
theorem md_World_read (E : En P w K mg base) : HasMd P w K mg base 1 "World" "read" [false] Ir.World_read.fn := by
  obtain ⟨C, fa, fd, Fu, hm, cl, me⟩ := E.em_World_read
  exact ⟨C, fa, fd, ["self", "number"], fn_ok0 (d := Ir.World_read) Fu sc_World_read rfl rfl fun cdv A outer s H Ex c hp =>
    (ss_read (by rfl) (ps_asg (p_v (p_f E.at_things_World (p_nil (pv 0))) (pv 1)) (pg_name c.nd (i := 2) rfl (Or.inl rfl)) rfl rfl rfl)
      (ps_if (pt_cmpR (od_nin c.u65) (pe_strC (c := 114)) (p_c (p_f E.at_kind_Thing (p_nil (pv 2)))) (by with_unfolding_all rfl)) (pss_one (ps_expr (pe_bm PySem.F.plainAttrs_list PySem.F.slot_list_append PySem.F.type_list_append mt_append (p_f E.at_breaches_World (p_nil (pv 0))) (pa_cons (pe_tup (pa_cons (pe_strC (c := 114)) (pa_cons (pv 1) pa_nil))) pa_nil)))) pss_nil)
      (p_f E.at_value_Thing (p_nil (pv 2)))), hm, cl, me, Fu.binds (fun _ _ _ _ _ _ us hl => match us, hl with | [_, _], _ => rfl)⟩
theorem sc__thing_at : FnScope ["world", "known", "place", "number", "turn", "value"] ["world", "known", "place"] (defScope S__thing_at) := ⟨rfl, rfl, rfl, by decide +kernel, rfl, by decide +kernel, by decide +kernel⟩
theorem h__thing_at (E : En P w K mg base) : HasFn P w K mg base 2 "_thing_at" [true, true, false] Ir._thing_at.fn := by
  obtain ⟨f, fd, Fu, hm⟩ := E.f__thing_at
  exact fn_ok (d := Ir._thing_at) Fu sc__thing_at hm rfl rfl (fun _ _ _ _ _ _ us hl => match us, hl with | [_, _, _], _ => rfl) fun cdv A outer s H Ex c hp =>
    (s_cons (s_asg 3 c (e_ix c (o_var 1) (o_e (e_ix c (o_var 2) (o_e e_int)))))
    (s_cons (s_for c hp (i_rng1 E.z_range (e_ix c (o_var 2) (o_e e_int))) (g_nm 4 c)
     (s_cons (s_asg 5 c (e_meth 0 c (md_World_read E) (pv 0) (la_cons (r_f (e_var 3)) la_nil)))
     (s_cons (s_if (t_cmp od_is (o_var 5) (o_e e_non))
      (s_cons (s_ret e_non)
      s_nil)
      s_nil)
     (s_cons (s_asg 3 c (e_ix c (o_var 5) (o_e e_int)))
     s_nil))))
    (s_cons (s_ret (e_var 3))
    s_nil)))
theorem sc__looked_up : FnScope ["world", "known", "source", "number"] ["world", "known", "source"] (defScope S__looked_up) := ⟨rfl, rfl, rfl, by decide +kernel, rfl, by decide +kernel, by decide +kernel⟩
theorem h__looked_up (E : En P w K mg base) : HasFn P w K mg base 3 "_looked_up" [true, true, false] Ir._looked_up.fn := by
  obtain ⟨f, fd, Fu, hm⟩ := E.f__looked_up
  exact fn_ok (d := Ir._looked_up) Fu sc__looked_up hm rfl rfl (fun _ _ _ _ _ _ us hl => match us, hl with | [_, _, _], _ => rfl) fun cdv A outer s H Ex c hp =>
    (s_cons (s_if (t_cmp (od_eq c.u64) (o_e (e_ix c (o_var 2) (o_e e_int))) (o_e e_str))
     (s_cons (s_ret (e_fz (e_lst (l_cons (e_ix c (o_var 2) (o_e e_int)) l_nil))))
     s_nil)
     s_nil)
    (s_cons (s_if (t_cmp (od_eq c.u64) (o_e (e_ix c (o_var 2) (o_e e_int))) (o_e e_str))
     (s_cons (s_ret (e_fz (e_lst (l_cons e_non l_nil))))
     s_nil)
     s_nil)
    (s_cons (s_asg 3 c (e_call c (h__thing_at E) (la_cons (r_var 0) (la_cons (r_var 1) (la_cons (r_f (e_ix c (o_var 2) (o_e e_int))) la_nil)))))
    (s_cons (s_if (t_cmp od_is (o_var 3) (o_e e_non))
     (s_cons (s_ret e_non)
     s_nil)
     s_nil)
    (s_cons (s_if (t_cmp (od_eq c.u64) (o_e (e_ix c (o_var 2) (o_e e_int))) (o_e e_str))
     (s_cons (s_ret (e_fz (e_lst (l_cons (e_tup (l_cons e_str (l_cons (e_var 3) l_nil))) l_nil))))
     s_nil)
     s_nil)
    (s_cons (s_ret (e_fz (e_lst (l_cons (e_meth 0 c (md_World_read E) (pv 0) (la_cons (r_f (e_var 3)) la_nil)) l_nil))))
    s_nil))))))
theorem sc__all_looked_up : FnScope ["world", "known", "sources", "found", "source", "told"] ["world", "known", "sources"] (defScope S__all_looked_up) := ⟨rfl, rfl, rfl, by decide +kernel, rfl, by decide +kernel, by decide +kernel⟩
theorem h__all_looked_up (E : En P w K mg base) : HasFn P w K mg base 4 "_all_looked_up" [true, true, false] Ir._all_looked_up.fn := by
  obtain ⟨f, fd, Fu, hm⟩ := E.f__all_looked_up
  exact fn_ok (d := Ir._all_looked_up) Fu sc__all_looked_up hm rfl rfl (fun _ _ _ _ _ _ us hl => match us, hl with | [_, _, _], _ => rfl) fun cdv A outer s H Ex c hp =>
    (s_cons (s_asg 3 c (e_lst l_nil))
    (s_cons (s_for c hp (i_val (e_var 2)) (g_nm 4 c)
     (s_cons (s_asg 5 c (e_call c (h__looked_up E) (la_cons (r_var 0) (la_cons (r_var 1) (la_cons (r_f (e_var 4)) la_nil)))))
     (s_cons (s_if (t_cmp od_is (o_var 5) (o_e e_non))
      (s_cons (s_ret e_non)
      s_nil)
      s_nil)
     (s_cons (s_ext 3 (pv 3) (e_var 5))
     s_nil))))
    (s_cons (s_ret (e_var 3))
    s_nil)))
theorem sc_Thing___init__ : FnScope ["self", "name", "kind", "value"] ["self", "name", "kind", "value"] (defScope S_Thing___init__) := ⟨rfl, rfl, rfl, by decide +kernel, rfl, by decide +kernel, by decide +kernel⟩
theorem m_Thing (E : En P w K mg base) : HasMk P w K mg base 1 "Thing" 3 Ir.Thing___init__.fn := by
  obtain ⟨C, fI, fd, Fu, hm, hMk⟩ := E.k_Thing
  exact ⟨C, fI, fd, ["self", "name", "kind", "value"], fn_ok0 (d := Ir.Thing___init__) Fu sc_Thing___init__ rfl rfl fun cdv A outer s H Ex c hp =>
    (s_cons (s_sta 0 E.a_Thing_name (e_var 1))
    (s_cons (s_sta 0 E.a_Thing_kind (e_var 2))
    (s_cons (s_sta 0 E.a_Thing_value (e_var 3))
    s_nil))), hm, hMk, Fu.binds (fun _ _ _ _ _ _ us hl => match us, hl with | [_, _, _, _], _ => rfl)⟩
theorem sc_World_make : FnScope ["self", "name", "kind", "value"] ["self", "name", "kind", "value"] (defScope S_World_make) := ⟨rfl, rfl, rfl, by decide +kernel, rfl, by decide +kernel, by decide +kernel⟩
theorem md_World_make (E : En P w K mg base) : HasMd P w K mg base 3 "World" "make" [false, false, false] Ir.World_make.fn := by
  obtain ⟨C, fa, fd, Fu, hm, cl, me⟩ := E.em_World_make
  exact ⟨C, fa, fd, ["self", "name", "kind", "value"], fn_ok0 (d := Ir.World_make) Fu sc_World_make rfl rfl fun cdv A outer s H Ex c hp =>
    (s_cons (s_apq 0 [.f ["World"] "things"] (p_f E.at_things_World (p_nil (pv 0))) (e_mk c (m_Thing E) (l_cons (e_var 1) (l_cons (e_var 2) (l_cons (e_var 3) l_nil)))))
    (s_cons (s_ret (e_bop od_sub (o_e (e_lnp (ss := [.f ["World"] "things"]) E.z_len (p_f E.at_things_World (p_nil (pv 0))))) (o_e e_int)))
    s_nil)), hm, cl, me, Fu.binds (fun _ _ _ _ _ _ us hl => match us, hl with | [_, _, _, _], _ => rfl)⟩
theorem sc_World_write : FnScope ["self", "number", "value", "thing"] ["self", "number", "value"] (defScope S_World_write) := ⟨rfl, rfl, rfl, by decide +kernel, rfl, by decide +kernel, by decide +kernel⟩
theorem md_World_write (E : En P w K mg base) : HasMd P w K mg base 1 "World" "write" [false, false] Ir.World_write.fn := by
  obtain ⟨C, fa, fd, Fu, hm, cl, me⟩ := E.em_World_write
  exact ⟨C, fa, fd, ["self", "number", "value"], fn_ok0 (d := Ir.World_write) Fu sc_World_write rfl rfl fun cdv A outer s H Ex c hp =>
    (ss_write (by rfl) E.a_Thing_value (ps_asg (p_v (p_f E.at_things_World (p_nil (pv 0))) (pv 1)) (pg_name c.nd (i := 3) rfl (Or.inl rfl)) rfl rfl rfl)
      (ps_if (pt_cmpR (od_nin c.u65) (pe_strC (c := 119)) (p_c (p_f E.at_kind_Thing (p_nil (pv 3)))) (by with_unfolding_all rfl)) (pss_one (ps_expr (pe_bm PySem.F.plainAttrs_list PySem.F.slot_list_append PySem.F.type_list_append mt_append (p_f E.at_breaches_World (p_nil (pv 0))) (pa_cons (pe_tup (pa_cons (pe_strC (c := 119)) (pa_cons (pv 1) pa_nil))) pa_nil)))) pss_nil)
      (ps_fld (pv 3) (pv 2) rfl)), hm, cl, me, Fu.binds (fun _ _ _ _ _ _ us hl => match us, hl with | [_, _, _], _ => rfl)⟩
theorem sc__put : FnScope ["world", "known", "place", "source", "number", "told"] ["world", "known", "place", "source"] (defScope S__put) := ⟨rfl, rfl, rfl, by decide +kernel, rfl, by decide +kernel, by decide +kernel⟩
theorem h__put (E : En P w K mg base) : HasFn P w K mg base 4 "_put" [true, true, false, false] Ir._put.fn := by
  obtain ⟨f, fd, Fu, hm⟩ := E.f__put
  exact fn_ok (d := Ir._put) Fu sc__put hm rfl rfl (fun _ _ _ _ _ _ us hl => match us, hl with | [_, _, _, _], _ => rfl) fun cdv A outer s H Ex c hp =>
    (s_cons (s_asg 4 c (e_call c (h__thing_at E) (la_cons (r_var 0) (la_cons (r_var 1) (la_cons (r_f (e_var 2)) la_nil)))))
    (s_cons (s_if (t_cmp od_is (o_var 4) (o_e e_non))
     (s_cons (s_ret e_bl)
     s_nil)
     s_nil)
    (s_cons (s_asg 5 c (e_call c (h__looked_up E) (la_cons (r_var 0) (la_cons (r_var 1) (la_cons (r_f (e_var 3)) la_nil)))))
    (s_cons (s_if (t_cmp od_is (o_var 5) (o_e e_non))
     (s_cons (s_ret e_bl)
     s_nil)
     s_nil)
    (s_cons (s_ex (e_meth 0 c (md_World_write E) (pv 0) (la_cons (r_f (e_var 4)) (la_cons (r_f (e_ix c (o_var 5) (o_e e_int))) la_nil))))
    (s_cons (s_ret e_bl)
    s_nil))))))
theorem sc_act_all : FnScope ["world", "functions", "known", "statements", "statement"] ["world", "functions", "known", "statements"] (defScope S_act_all) := ⟨rfl, rfl, rfl, by decide +kernel, rfl, by decide +kernel, by decide +kernel⟩
theorem hr_act_all (E : En P w K mg base) (n : Nat) (ih : HasFn P w K mg base (4 + 3 * n) "act" [true, false, true, false] (Ir.actN n)) : HasFn P w K mg base (4 + 3 * n + 1) "act_all" [true, false, true, false] (Ir.act_all (Ir.actN n)).fn := by
  obtain ⟨f, fd, Fu, hm⟩ := E.f_act_all
  refine fn_ok (k := 4 + 3 * n) (d := Ir.act_all (Ir.actN n)) Fu sc_act_all hm rfl rfl (fun _ _ _ _ _ _ us hl => match us, hl with | [_, _, _, _], _ => rfl) fun cdv A outer s H Ex c hp => ?_
  have hk : decide (4 + 3 * n ≤ 4 + 3 * n) = true := decide_eq_true (Nat.le_refl _)
  exact (s_cons (s_for c hp (i_val (e_var 3)) (g_nm 4 c)
     (s_cons (s_if (t_not (t_of (o_e (e_call c ih (la_cons (r_var 0) (la_cons (r_f (e_var 1)) (la_cons (r_var 2) (la_cons (r_f (e_var 4)) la_nil)))) hk))))
      (s_cons (s_ret e_bl)
      s_nil)
      s_nil)
     s_nil))
    (s_cons (s_ret e_bl)
    s_nil))
theorem sc__call : FnScope ["world", "functions", "known", "name", "sources", "given", "function", "inner", "value", "param", "kind"] ["world", "functions", "known", "name", "sources"] (defScope S__call) := ⟨rfl, rfl, rfl, by decide +kernel, rfl, by decide +kernel, by decide +kernel⟩
theorem hr__call (E : En P w K mg base) (n : Nat) (ih : HasFn P w K mg base (4 + 3 * n + 1) "act_all" [true, false, true, false] (Ir.act_allN n)) : HasFn P w K mg base (4 + 3 * n + 1 + 1) "_call" [true, false, true, false, false] (Ir._call (Ir.act_allN n)).fn := by
  obtain ⟨f, fd, Fu, hm⟩ := E.f__call
  refine fn_ok (k := 4 + 3 * n + 1) (d := Ir._call (Ir.act_allN n)) Fu sc__call hm rfl rfl (fun _ _ _ _ _ _ us hl => match us, hl with | [_, _, _, _, _], _ => rfl) fun cdv A outer s H Ex c hp => ?_
  have hk : decide (4 + 3 * n + 1 ≤ 4 + 3 * n + 1) = true := decide_eq_true (Nat.le_refl _)
  exact (s_cons (s_asg 5 c (e_call c (h__all_looked_up E) (la_cons (r_var 0) (la_cons (r_var 2) (la_cons (r_f (e_var 4)) la_nil))) (decide_eq_true (by omega))))
    (s_cons (s_if (t_cmp od_is (o_var 5) (o_e e_non))
     (s_cons (s_ret e_bl)
     s_nil)
     s_nil)
    (s_cons (s_asg 6 c (e_call c (h_function_of E) (la_cons (r_f (e_var 1)) (la_cons (r_f (e_var 3)) la_nil)) (decide_eq_true (by omega))))
    (s_cons (s_asg 7 c e_dnew)
    (s_cons (s_for c hp (i_zip E.z_zip (e_att E.at_params_Function (e_var 6)) (e_var 5)) (g_tp c (gs_cons (g_tp c (gs_cons (g_nm 9 c) (gs_cons (g_nm 10 c) gs_nil))) (gs_cons (g_nm 8 c) gs_nil)))
     (s_cons (s_sto 7 c (o_var 9) (e_meth 0 c (md_World_make E) (pv 0) (la_cons (r_f (e_var 9)) (la_cons (r_f (e_var 10)) (la_cons (r_f (e_var 8)) la_nil))) (decide_eq_true (by omega))) (pv 7))
     s_nil))
    (s_cons (s_ret (e_call c ih (la_cons (r_var 0) (la_cons (r_f (e_var 1)) (la_cons (r_var 7) (la_cons (r_f (e_att E.at_body_Function (e_var 6))) la_nil)))) hk))
    s_nil))))))
theorem sc_act : FnScope ["world", "functions", "known", "statement", "told"] ["world", "functions", "known", "statement"] (defScope S_act) := ⟨rfl, rfl, rfl, by decide +kernel, rfl, by decide +kernel, by decide +kernel⟩
theorem hr_act (E : En P w K mg base) (n : Nat) (ih : HasFn P w K mg base (4 + 3 * n + 2) "_call" [true, false, true, false, false] (Ir._callN n)) : HasFn P w K mg base (4 + 3 * n + 2 + 1) "act" [true, false, true, false] (Ir.act (Ir._callN n)).fn := by
  obtain ⟨CE, fE, TE⟩ := E.re
  obtain ⟨f, fd, Fu, hm⟩ := E.f_act
  refine fn_ok (k := 4 + 3 * n + 2) (d := Ir.act (Ir._callN n)) Fu sc_act hm rfl rfl (fun _ _ _ _ _ _ us hl => match us, hl with | [_, _, _, _], _ => rfl) fun cdv A outer s H Ex c hp => ?_
  have hk : decide (4 + 3 * n + 2 ≤ 4 + 3 * n + 2) = true := decide_eq_true (Nat.le_refl _)
  exact (s_cons (s_aga 0 E.a_World_executed)
    (s_cons (s_if (t_cmp od_gt (o_e (e_pth (ss := [.f ["World"] "executed"]) (p_f E.at_executed_World (p_nil (pv 0))))) (o_e (e_glo E.g_MOST_EXECUTED)))
     (s_cons (s_raise c TE e_str)
     s_nil)
     s_nil)
    (s_cons (s_if (t_cmp (od_eq c.u64) (o_e (e_ix c (o_var 3) (o_e e_int))) (o_e e_str))
     (s_cons (s_ret (e_call c ih (la_cons (r_var 0) (la_cons (r_f (e_var 1)) (la_cons (r_var 2) (la_cons (r_f (e_ix c (o_var 3) (o_e e_int))) (la_cons (r_f (e_ix c (o_var 3) (o_e e_int))) la_nil))))) hk))
     s_nil)
     s_nil)
    (s_cons (s_if (t_cmp (od_eq c.u64) (o_e (e_ix c (o_var 3) (o_e e_int))) (o_e e_str))
     (s_cons (s_ret (e_call c (h__put E) (la_cons (r_var 0) (la_cons (r_var 2) (la_cons (r_f (e_ix c (o_var 3) (o_e e_int))) (la_cons (r_f (e_ix c (o_var 3) (o_e e_int))) la_nil)))) (decide_eq_true (by omega))))
     s_nil)
     s_nil)
    (s_cons (s_asg 4 c (e_call c (h__looked_up E) (la_cons (r_var 0) (la_cons (r_var 2) (la_cons (r_f (e_ix c (o_var 3) (o_e e_int))) la_nil))) (decide_eq_true (by omega))))
    (s_cons (s_if (t_cmp od_is (o_var 4) (o_e e_non))
     (s_cons (s_ret e_bl)
     s_nil)
     s_nil)
    (s_cons (s_sto 2 c (o_e (e_ix c (o_var 3) (o_e e_int))) (e_meth 0 c (md_World_make E) (pv 0) (la_cons (r_f (e_ix c (o_var 3) (o_e e_int))) (la_cons (r_f (e_ix c (o_var 3) (o_e e_int))) (la_cons (r_f (e_ix c (o_var 4) (o_e e_int))) la_nil))) (decide_eq_true (by omega))) (pv 2))
    (s_cons (s_ret e_bl)
    s_nil))))))))
theorem h_act (E : En P w K mg base) : ∀ n : Nat, HasFn P w K mg base (4 + 3 * n) "act" [true, false, true, false] (Ir.actN n)
  | 0 => by
    obtain ⟨f, fd, Fu, hm⟩ := E.f_act
    exact fn_none Fu sc_act hm (fun _ _ _ _ _ _ us hl => match us, hl with | [_, _, _, _], _ => rfl)
  | n + 1 => (hr_act E n (hr__call E n (hr_act_all E n (h_act E n))))
theorem h_act_all (E : En P w K mg base) (n : Nat) : HasFn P w K mg base (4 + 3 * n + 1) "act_all" [true, false, true, false] (Ir.act_allN n) := (hr_act_all E n (h_act E n))
theorem h__call (E : En P w K mg base) (n : Nat) : HasFn P w K mg base (4 + 3 * n + 2) "_call" [true, false, true, false, false] (Ir._callN n) := (hr__call E n (hr_act_all E n (h_act E n)))
theorem sc_shown_things : FnScope ["world", "thing"] ["world"] (defScope S_shown_things) := ⟨rfl, rfl, rfl, by decide +kernel, rfl, by decide +kernel, by decide +kernel⟩
theorem h_shown_things (E : En P w K mg base) : HasFn P w K mg base 1 "shown_things" [false] Ir.shown_things.fn := by
  obtain ⟨f, fd, Fu, hm⟩ := E.f_shown_things
  exact fn_ok (d := Ir.shown_things) Fu sc_shown_things hm rfl rfl (fun _ _ _ _ _ _ us hl => match us, hl with | [_], _ => rfl) fun cdv A outer s H Ex c hp =>
    (s_cons (s_ret (e_fz (e_lc (own := [("thing", 1)]) c (i_val (e_att E.at_things_World (e_var 0))) (fun _ _ _ _ _ => (g_nm 1 (c.blk))) (fun _ _ _ _ _ => c_no) (fun _ _ _ _ _ => (e_tup (l_cons (e_att E.at_name_Thing (e_var 1)) (l_cons (e_att E.at_kind_Thing (e_var 1)) (l_cons (e_att E.at_value_Thing (e_var 1)) l_nil))))))))
    s_nil)
theorem sc_run : FnScope ["program", "extra", "world", "ended"] ["program", "extra"] (defScope S_run) := ⟨rfl, rfl, rfl, by decide +kernel, rfl, by decide +kernel, by decide +kernel⟩
theorem h_run (E : En P w K mg base) : HasFn P w K mg base 36 "run" [false, false] Ir.run.fn := by
  obtain ⟨CE, fE, TE⟩ := E.re
  obtain ⟨f, fd, Fu, hm⟩ := E.f_run
  exact fn_ok (d := Ir.run) Fu sc_run hm rfl rfl (fun _ _ _ _ _ _ us hl => match us, hl with | [_, _], _ => rfl) fun cdv A outer s H Ex c hp =>
    (s_cons (s_if (t_not (t_of (o_e (e_call c (h_is_let_by E) (la_cons (r_f (e_var 0)) (la_cons (r_f (e_var 1)) la_nil))))))
     (s_cons (s_raise c TE e_str)
     s_nil)
     s_nil)
    (s_cons (s_asg 2 c (e_mk0 c (m_World E)))
    (s_cons (s_asg 3 c (e_call c (h_act_all E 10) (la_cons (r_var 2) (la_cons (r_f (e_att E.at_functions_Program (e_var 0))) (la_cons (r_t e_dnew) (la_cons (r_f (e_att E.at_statements_Program (e_var 0))) la_nil))))))
    (s_cons (s_ret (e_tup (l_cons (e_if (t_of (o_var 3)) e_str e_str) (l_cons (e_att E.at_breaches_World (e_var 2)) (l_cons (e_call c (h_shown_things E) (la_cons (r_f (e_var 2)) la_nil)) l_nil)))))
    s_nil))))
theorem sc_is_breaking : FnScope ["one", "two", "program", "extra", "ended", "breaches", "things"] ["one", "two", "program"] (defScope S_is_breaking) := ⟨rfl, rfl, rfl, by decide +kernel, rfl, by decide +kernel, by decide +kernel⟩
theorem h_is_breaking (E : En P w K mg base) : HasFn P w K mg base 37 "is_breaking" [false, false, false] Ir.is_breaking.fn := by
  obtain ⟨CE, fE, TE⟩ := E.re
  obtain ⟨f, fd, Fu, hm⟩ := E.f_is_breaking
  exact fn_ok (d := Ir.is_breaking) Fu sc_is_breaking hm rfl rfl (fun _ _ _ _ _ _ us hl => match us, hl with | [_, _, _], _ => rfl) fun cdv A outer s H Ex c hp =>
    (s_cons (s_asg 3 c (e_lst (l_cons (e_tup (l_cons (e_var 0) (l_cons (e_var 1) l_nil))) l_nil)))
    (s_cons (s_if (t_not (t_of (o_e (e_call c (h_is_let_by E) (la_cons (r_f (e_var 2)) (la_cons (r_f (e_var 3)) la_nil))))))
     (s_cons (s_ret e_bl)
     s_nil)
     s_nil)
    (s_cons (s_tryC c TE (fun W' pn xe c hp =>
     (s_cons (s_asgT (e_call c (h_run E) (la_cons (r_f (e_var 2)) (la_cons (r_f (e_var 3)) la_nil))) (g_tp c (gs_cons (g_nm 4 c) (gs_cons (g_nm 5 c) (gs_cons (g_nm 6 c) gs_nil)))))
     s_nil)) (fun _ _ _ => e_bl))
    (s_cons (s_ret (e_cmp od_gt (o_e (e_bi (bi_len E.z_len) (lo_cons (o_var 5) lo_nil))) (o_e e_int)))
    s_nil))))
theorem sc_is_bar : FnScope ["one", "two", "letters", "letter", "step"] ["one", "two", "letters", "letter"] (defScope S_is_bar) := ⟨rfl, rfl, rfl, by decide +kernel, rfl, by decide +kernel, by decide +kernel⟩
theorem h_is_bar (E : En P w K mg base) : HasFn P w K mg base 1 "is_bar" [false, false, false, false] Ir.is_bar.fn := by
  obtain ⟨f, fd, Fu, hm⟩ := E.f_is_bar
  exact fn_ok (d := Ir.is_bar) Fu sc_is_bar hm rfl rfl (fun _ _ _ _ _ _ us hl => match us, hl with | [_, _, _, _], _ => rfl) fun cdv A outer s H Ex c hp =>
    (s_cons (s_for c hp (i_val (e_var 2)) (g_nm 4 c)
     (s_cons (s_if (t_or (w_or (t_not (t_of (o_var 1))) (w_or (t_cmp (od_nin c.u65) (o_var 4) (o_e (e_tup (l_cons e_str (l_cons e_str l_nil))))) (w_or1 (t_cmp (od_nin c.u65) (o_var 4) (o_e (e_ix c (o_var 1) (o_e e_int))))))))
      (s_cons (s_ret e_bl)
      s_nil)
      s_nil)
     (s_cons (s_asgT (e_if (t_cmp (od_eq c.u64) (o_var 4) (o_e e_str)) (e_tup (l_cons (e_sl (o_var 0) (po_s e_int) po_n) (l_cons (e_sl (o_var 1) (po_s e_int) po_n) l_nil))) (e_tup (l_cons (e_sl (o_var 1) (po_s e_int) po_n) (l_cons (e_sl (o_var 0) (po_s e_int) po_n) l_nil)))) (g_tp c (gs_cons (g_nm 0 c) (gs_cons (g_nm 1 c) gs_nil))))
     s_nil)))
    (s_cons (s_ret (e_and (e_cmp od_gt (o_e (e_bi (bi_len E.z_len) (lo_cons (o_var 1) lo_nil))) (o_e e_int)) (e_and (e_cmp (od_in c.u65) (o_var 3) (o_e (e_tup (l_cons e_str (l_cons e_str l_nil))))) (e_and (e_cmp (od_in c.u65) (o_var 3) (o_e (e_ix c (o_var 1) (o_e e_int)))) (e_and1 (e_cmp (od_nin c.u65) (o_var 3) (o_e (e_ix c (o_var 0) (o_e e_int)))))))))
    s_nil))
theorem sc_law : FnScope ["_law_script", "_law_box", "_law_others", "_law_turn", "_law_told", "_law_made", "_law_paper", "_law_one", "_law_two", "_law_program", "_law_three"] ["_law_script"] (defScope S_law) := ⟨rfl, rfl, rfl, by decide +kernel, rfl, by decide +kernel, by decide +kernel⟩
theorem fnk_law {f : Addr} {fd : FuncData} (E : En P w K mg base) (Fu : Fun K "law" "law" S_law f fd) : FnOk P w K mg base (L2.CX P w) 38 f fd ["_law_script"] (spF K mg [false] Ir.law.fn) := by

  exact fn_ok0 (d := Ir.law) Fu sc_law rfl rfl fun cdv A outer s H Ex c hp =>
    (s_cons (s_asg 1 c (e_lst (l_cons (e_call c (h__law_row E) (la_cons (r_f (e_var 0)) (la_cons (r_f e_int) (la_cons (r_f e_int) la_nil)))) (l_cons e_int l_nil))))
    (s_cons (s_asg 2 c (e_lst l_nil))
    (s_cons (s_for c hp (i_rng1 E.z_range e_int) (g_nm 3 c)
     (s_cons (s_asgT (e_call c (h__law_pair E) (la_cons (r_var 1) (la_cons (r_f e_int) la_nil))) (g_tp c (gs_cons (g_nm 7 c) (gs_cons (g_nm 8 c) gs_nil))))
     (s_cons (s_asg 4 c (e_call c (h_converts E) (la_cons (r_f (e_var 7)) (la_cons (r_f (e_var 8)) la_nil))))
     (s_cons (s_asg 5 c (e_call c (h_breaking E) (la_cons (r_f (e_var 7)) (la_cons (r_f (e_var 8)) la_nil))))
     (s_cons (s_asg 6 c (e_call c (h_bar E) (la_cons (r_f (e_var 7)) (la_cons (r_f (e_var 8)) la_nil))))
     (s_cons (s_if (t_or (w_or (t_not (t_of (o_e (e_isi (T := "bool") E.z_isinstance E.z_bool (o_var 4))))) (w_or (t_cmp (od_ne c.u64) (o_var 4) (o_e (e_cmp od_is (o_var 5) (o_e e_non)))) (w_or1 (t_cmp (od_ne c.u64) (o_var 4) (o_e (e_cmp od_is (o_var 6) (o_e e_non))))))))
      (s_cons (s_ret e_bl)
      s_nil)
      s_nil)
     (s_cons (s_if (t_cmp od_nis (o_var 5) (o_e e_non))
      (s_cons (s_if (t_or (w_or (t_cmp od_nis (o_e (e_call c (h_is_breaking E) (la_cons (r_f (e_var 7)) (la_cons (r_f (e_var 8)) (la_cons (r_f (e_var 5)) la_nil))))) (o_e e_bl)) (w_or1 (t_cmp od_nis (o_e (e_call c (h_is_bar E) (la_cons (r_f (e_var 7)) (la_cons (r_f (e_var 8)) (la_cons (r_f (e_ix c (o_var 6) (o_e e_int))) (la_cons (r_f (e_ix c (o_var 6) (o_e e_int))) la_nil)))))) (o_e e_bl)))))
       (s_cons (s_ret e_bl)
       s_nil)
       s_nil)
      (s_cons (s_app 2 (pv 2) (e_var 5))
      s_nil))
      (s_cons (s_for c hp (i_val (e_sl (o_var 2) (po_s (e_neg (o_e e_int))) po_n)) (g_nm 9 c)
       (s_cons (s_if (t_cmp od_nis (o_e (e_call c (h_is_breaking E) (la_cons (r_f (e_var 7)) (la_cons (r_f (e_var 8)) (la_cons (r_f (e_var 9)) la_nil))))) (o_e e_bl))
        (s_cons (s_ret e_bl)
        s_nil)
        s_nil)
       s_nil))
      (s_cons (s_asg 10 c (e_call c (h__law_rights E) (la_cons (r_var 1) (la_cons (r_f (e_bi (bi_len E.z_len) (lo_cons (o_var 7) lo_nil))) la_nil))))
      (s_cons (s_if (t_or (w_or (t_and (w_and (t_of (o_e (e_call c (h_converts E) (la_cons (r_f (e_var 10)) (la_cons (r_f (e_var 7)) la_nil))))) (w_and1 (t_not (t_of (o_e (e_call c (h_converts E) (la_cons (r_f (e_var 10)) (la_cons (r_f (e_var 8)) la_nil))))))))) (w_or1 (t_and (w_and (t_of (o_e (e_call c (h_converts E) (la_cons (r_f (e_var 8)) (la_cons (r_f (e_var 10)) la_nil))))) (w_and1 (t_not (t_of (o_e (e_call c (h_converts E) (la_cons (r_f (e_var 7)) (la_cons (r_f (e_var 10)) la_nil))))))))))))
       (s_cons (s_ret e_bl)
       s_nil)
       s_nil)
      s_nil))))
     s_nil)))))))
    (s_cons (s_ret e_bl)
    s_nil))))
theorem all_mk {l : PySem.W.OpenLaw} {w : World} {K : PySem.W.Frag} {h : Heap} {mg : Str → Option Value} {fa : Addr} (X : K.In h) (G : h.Ns mainGlobals mg) (hfa : mg "law" = some (.ref fa))
    {t1 : Tok} {t2 : Tok} {t3 : Tok} {t4 : Tok} {t5 : Tok} {t6 : Tok} {t7 : Tok} {t8 : Tok} {t9 : Tok} {t10 : Tok} {t11 : Tok} {t12 : Tok} {t13 : Tok} {t14 : Tok} {t15 : Tok} {a16 : Addr} {d17 : Option Addr} {n18 : Nat} {sl19 : Array (Option Value)} {C_re f_re cc_re cda_re : Addr} {nm_re qq_re : Str} {N_re : Addr} {bs_re : List Value} {sn_re : List Str} {sub_re : List Value} {ab_re : Bool} {col_re : Option Bool} {dd_re : Option Addr} {k0_re k1_re k2_re k3_re k5_re : Option Value} {oc_re doc_re pm_re ct_re cl_re ccl_re : Value} {od_re an_re cld_re cdd_re : Option Addr} {osl_re csl_re ccs_re : Array (Option Value)} {vs_re : Array Value} {file_re : Str} {tf_re : Tok} {C_Function f_Function_i : Addr} {od_Function_i an_Function_i : Option Addr} {sl_Function_i : Array (Option Value)} {oc_Function_i kV_Function_i dc_Function_i pm_Function_i cd_Function_i ct_Function_i : Value} {C_Program f_Program_i : Addr} {od_Program_i an_Program_i : Option Addr} {sl_Program_i : Array (Option Value)} {oc_Program_i kV_Program_i dc_Program_i pm_Program_i cd_Program_i ct_Program_i : Value} {C_Thing f_Thing_i : Addr} {od_Thing_i an_Thing_i : Option Addr} {sl_Thing_i : Array (Option Value)} {oc_Thing_i kV_Thing_i dc_Thing_i pm_Thing_i cd_Thing_i ct_Thing_i : Value} {C_World f_World_i : Addr} {od_World_i an_World_i : Option Addr} {sl_World_i : Array (Option Value)} {oc_World_i kV_World_i dc_World_i pm_World_i cd_World_i ct_World_i : Value} {f_World_read_i : Addr} {od_World_read_i an_World_read_i : Option Addr} {sl_World_read_i : Array (Option Value)} {oc_World_read_i kV_World_read_i dc_World_read_i pm_World_read_i cd_World_read_i ct_World_read_i : Value} {f_World_make_i : Addr} {od_World_make_i an_World_make_i : Option Addr} {sl_World_make_i : Array (Option Value)} {oc_World_make_i kV_World_make_i dc_World_make_i pm_World_make_i cd_World_make_i ct_World_make_i : Value} {f_World_write_i : Addr} {od_World_write_i an_World_write_i : Option Addr} {sl_World_write_i : Array (Option Value)} {oc_World_write_i kV_World_write_i dc_World_write_i pm_World_write_i cd_World_write_i ct_World_write_i : Value} {f__law_cell : Addr} {od__law_cell an__law_cell : Option Addr} {sl__law_cell : Array (Option Value)} {oc__law_cell kV__law_cell dc__law_cell pm__law_cell cd__law_cell ct__law_cell : Value} {f__law_row : Addr} {od__law_row an__law_row : Option Addr} {sl__law_row : Array (Option Value)} {oc__law_row kV__law_row dc__law_row pm__law_row cd__law_row ct__law_row : Value} {f__law_draw : Addr} {od__law_draw an__law_draw : Option Addr} {sl__law_draw : Array (Option Value)} {oc__law_draw kV__law_draw dc__law_draw pm__law_draw cd__law_draw ct__law_draw : Value} {f__law_right : Addr} {od__law_right an__law_right : Option Addr} {sl__law_right : Array (Option Value)} {oc__law_right kV__law_right dc__law_right pm__law_right cd__law_right ct__law_right : Value} {f__law_rights : Addr} {od__law_rights an__law_rights : Option Addr} {sl__law_rights : Array (Option Value)} {oc__law_rights kV__law_rights dc__law_rights pm__law_rights cd__law_rights ct__law_rights : Value} {f__law_pair : Addr} {od__law_pair an__law_pair : Option Addr} {sl__law_pair : Array (Option Value)} {oc__law_pair kV__law_pair dc__law_pair pm__law_pair cd__law_pair ct__law_pair : Value} {f__find : Addr} {od__find an__find : Option Addr} {sl__find : Array (Option Value)} {oc__find kV__find dc__find pm__find cd__find ct__find : Value} {f_converts : Addr} {od_converts an_converts : Option Addr} {sl_converts : Array (Option Value)} {oc_converts kV_converts dc_converts pm_converts cd_converts ct_converts : Value} {f_bar : Addr} {od_bar an_bar : Option Addr} {sl_bar : Array (Option Value)} {oc_bar kV_bar dc_bar pm_bar cd_bar ct_bar : Value} {f__steps : Addr} {od__steps an__steps : Option Addr} {sl__steps : Array (Option Value)} {oc__steps kV__steps dc__steps pm__steps cd__steps ct__steps : Value} {f__copied : Addr} {od__copied an__copied : Option Addr} {sl__copied : Array (Option Value)} {oc__copied kV__copied dc__copied pm__copied cd__copied ct__copied : Value} {f_copied : Addr} {od_copied an_copied : Option Addr} {sl_copied : Array (Option Value)} {oc_copied kV_copied dc_copied pm_copied cd_copied ct_copied : Value} {f__are_calls : Addr} {od__are_calls an__are_calls : Option Addr} {sl__are_calls : Array (Option Value)} {oc__are_calls kV__are_calls dc__are_calls pm__are_calls cd__are_calls ct__are_calls : Value} {f_is_name : Addr} {od_is_name an_is_name : Option Addr} {sl_is_name : Array (Option Value)} {oc_is_name kV_is_name dc_is_name pm_is_name cd_is_name ct_is_name : Value} {f_is_right : Addr} {od_is_right an_is_right : Option Addr} {sl_is_right : Array (Option Value)} {oc_is_right kV_is_right dc_is_right pm_is_right cd_is_right ct_is_right : Value} {f_is_value_type : Addr} {od_is_value_type an_is_value_type : Option Addr} {sl_is_value_type : Array (Option Value)} {oc_is_value_type kV_is_value_type dc_is_value_type pm_is_value_type cd_is_value_type ct_is_value_type : Value} {f_is_type : Addr} {od_is_type an_is_type : Option Addr} {sl_is_type : Array (Option Value)} {oc_is_type kV_is_type dc_is_type pm_is_type cd_is_type ct_is_type : Value} {f_is_number : Addr} {od_is_number an_is_number : Option Addr} {sl_is_number : Array (Option Value)} {oc_is_number kV_is_number dc_is_number pm_is_number cd_is_number ct_is_number : Value} {f_is_depth : Addr} {od_is_depth an_is_depth : Option Addr} {sl_is_depth : Array (Option Value)} {oc_is_depth kV_is_depth dc_is_depth pm_is_depth cd_is_depth ct_is_depth : Value} {f_is_place : Addr} {od_is_place an_is_place : Option Addr} {sl_is_place : Array (Option Value)} {oc_is_place kV_is_place dc_is_place pm_is_place cd_is_place ct_is_place : Value} {f_is_source : Addr} {od_is_source an_is_source : Option Addr} {sl_is_source : Array (Option Value)} {oc_is_source kV_is_source dc_is_source pm_is_source cd_is_source ct_is_source : Value} {f_is_statement : Addr} {od_is_statement an_is_statement : Option Addr} {sl_is_statement : Array (Option Value)} {oc_is_statement kV_is_statement dc_is_statement pm_is_statement cd_is_statement ct_is_statement : Value} {f__is_block : Addr} {od__is_block an__is_block : Option Addr} {sl__is_block : Array (Option Value)} {oc__is_block kV__is_block dc__is_block pm__is_block cd__is_block ct__is_block : Value} {f__made : Addr} {od__made an__made : Option Addr} {sl__made : Array (Option Value)} {oc__made kV__made dc__made pm__made cd__made ct__made : Value} {f_names_of : Addr} {od_names_of an_names_of : Option Addr} {sl_names_of : Array (Option Value)} {oc_names_of kV_names_of dc_names_of pm_names_of cd_names_of ct_names_of : Value} {f__is_parameter : Addr} {od__is_parameter an__is_parameter : Option Addr} {sl__is_parameter : Array (Option Value)} {oc__is_parameter kV__is_parameter dc__is_parameter pm__is_parameter cd__is_parameter ct__is_parameter : Value} {f__is_function : Addr} {od__is_function an__is_function : Option Addr} {sl__is_function : Array (Option Value)} {oc__is_function kV__is_function dc__is_function pm__is_function cd__is_function ct__is_function : Value} {f__is_program : Addr} {od__is_program an__is_program : Option Addr} {sl__is_program : Array (Option Value)} {oc__is_program kV__is_program dc__is_program pm__is_program cd__is_program ct__is_program : Value} {f__empty : Addr} {od__empty an__empty : Option Addr} {sl__empty : Array (Option Value)} {oc__empty kV__empty dc__empty pm__empty cd__empty ct__empty : Value} {f__converter : Addr} {od__converter an__converter : Option Addr} {sl__converter : Array (Option Value)} {oc__converter kV__converter dc__converter pm__converter cd__converter ct__converter : Value} {f_breaking : Addr} {od_breaking an_breaking : Option Addr} {sl_breaking : Array (Option Value)} {oc_breaking kV_breaking dc_breaking pm_breaking cd_breaking ct_breaking : Value} {f_function_of : Addr} {od_function_of an_function_of : Option Addr} {sl_function_of : Array (Option Value)} {oc_function_of kV_function_of dc_function_of pm_function_of cd_function_of ct_function_of : Value} {f_place_fault : Addr} {od_place_fault an_place_fault : Option Addr} {sl_place_fault : Array (Option Value)} {oc_place_fault kV_place_fault dc_place_fault pm_place_fault cd_place_fault ct_place_fault : Value} {f_seen_type : Addr} {od_seen_type an_seen_type : Option Addr} {sl_seen_type : Array (Option Value)} {oc_seen_type kV_seen_type dc_seen_type pm_seen_type cd_seen_type ct_seen_type : Value} {f__conversion_fault : Addr} {od__conversion_fault an__conversion_fault : Option Addr} {sl__conversion_fault : Array (Option Value)} {oc__conversion_fault kV__conversion_fault dc__conversion_fault pm__conversion_fault cd__conversion_fault ct__conversion_fault : Value} {f_source_fault : Addr} {od_source_fault an_source_fault : Option Addr} {sl_source_fault : Array (Option Value)} {oc_source_fault kV_source_fault dc_source_fault pm_source_fault cd_source_fault ct_source_fault : Value} {f__put_fault : Addr} {od__put_fault an__put_fault : Option Addr} {sl__put_fault : Array (Option Value)} {oc__put_fault kV__put_fault dc__put_fault pm__put_fault cd__put_fault ct__put_fault : Value} {f_statement_fault : Addr} {od_statement_fault an_statement_fault : Option Addr} {sl_statement_fault : Array (Option Value)} {oc_statement_fault kV_statement_fault dc_statement_fault pm_statement_fault cd_statement_fault ct_statement_fault : Value} {f_block_faults : Addr} {od_block_faults an_block_faults : Option Addr} {sl_block_faults : Array (Option Value)} {oc_block_faults kV_block_faults dc_block_faults pm_block_faults cd_block_faults ct_block_faults : Value} {f_faults : Addr} {od_faults an_faults : Option Addr} {sl_faults : Array (Option Value)} {oc_faults kV_faults dc_faults pm_faults cd_faults ct_faults : Value} {f_is_let_by : Addr} {od_is_let_by an_is_let_by : Option Addr} {sl_is_let_by : Array (Option Value)} {oc_is_let_by kV_is_let_by dc_is_let_by pm_is_let_by cd_is_let_by ct_is_let_by : Value} {f__thing_at : Addr} {od__thing_at an__thing_at : Option Addr} {sl__thing_at : Array (Option Value)} {oc__thing_at kV__thing_at dc__thing_at pm__thing_at cd__thing_at ct__thing_at : Value} {f__looked_up : Addr} {od__looked_up an__looked_up : Option Addr} {sl__looked_up : Array (Option Value)} {oc__looked_up kV__looked_up dc__looked_up pm__looked_up cd__looked_up ct__looked_up : Value} {f__all_looked_up : Addr} {od__all_looked_up an__all_looked_up : Option Addr} {sl__all_looked_up : Array (Option Value)} {oc__all_looked_up kV__all_looked_up dc__all_looked_up pm__all_looked_up cd__all_looked_up ct__all_looked_up : Value} {f__put : Addr} {od__put an__put : Option Addr} {sl__put : Array (Option Value)} {oc__put kV__put dc__put pm__put cd__put ct__put : Value} {f_act_all : Addr} {od_act_all an_act_all : Option Addr} {sl_act_all : Array (Option Value)} {oc_act_all kV_act_all dc_act_all pm_act_all cd_act_all ct_act_all : Value} {f__call : Addr} {od__call an__call : Option Addr} {sl__call : Array (Option Value)} {oc__call kV__call dc__call pm__call cd__call ct__call : Value} {f_act : Addr} {od_act an_act : Option Addr} {sl_act : Array (Option Value)} {oc_act kV_act dc_act pm_act cd_act ct_act : Value} {f_shown_things : Addr} {od_shown_things an_shown_things : Option Addr} {sl_shown_things : Array (Option Value)} {oc_shown_things kV_shown_things dc_shown_things pm_shown_things cd_shown_things ct_shown_things : Value} {f_run : Addr} {od_run an_run : Option Addr} {sl_run : Array (Option Value)} {oc_run kV_run dc_run pm_run cd_run ct_run : Value} {f_is_breaking : Addr} {od_is_breaking an_is_breaking : Option Addr} {sl_is_breaking : Array (Option Value)} {oc_is_breaking kV_is_breaking dc_is_breaking pm_is_breaking cd_is_breaking ct_is_breaking : Value} {f_is_bar : Addr} {od_is_bar an_is_bar : Option Addr} {sl_is_bar : Array (Option Value)} {oc_is_bar kV_is_bar dc_is_bar pm_is_bar cd_is_bar ct_is_bar : Value} {f_law : Addr} {od_law an_law : Option Addr} {sl_law : Array (Option Value)} {oc_law kV_law dc_law pm_law cd_law ct_law : Value}
    (z_abs : PySem.W.nsIn K mainGlobals "abs" = some none)
    (z_all : PySem.W.nsIn K mainGlobals "all" = some none)
    (z_bool : PySem.W.nsIn K mainGlobals "bool" = some none)
    (z_enumerate : PySem.W.nsIn K mainGlobals "enumerate" = some none)
    (z_int : PySem.W.nsIn K mainGlobals "int" = some none)
    (z_isinstance : PySem.W.nsIn K mainGlobals "isinstance" = some none)
    (z_len : PySem.W.nsIn K mainGlobals "len" = some none)
    (z_list : PySem.W.nsIn K mainGlobals "list" = some none)
    (z_range : PySem.W.nsIn K mainGlobals "range" = some none)
    (z_str : PySem.W.nsIn K mainGlobals "str" = some none)
    (z_tuple : PySem.W.nsIn K mainGlobals "tuple" = some none)
    (z_zip : PySem.W.nsIn K mainGlobals "zip" = some none)
    (g_LETTERS : PySem.W.nsIn K mainGlobals "LETTERS" = some (some (.str "abcdefghijklmnopqrstuvwxyz" t1)))
    (g_LONGEST_NAME : PySem.W.nsIn K mainGlobals "LONGEST_NAME" = some (some (.int 8 t2)))
    (g_MOST_BODY : PySem.W.nsIn K mainGlobals "MOST_BODY" = some (some (.int 12 t3)))
    (g_MOST_DEPTH : PySem.W.nsIn K mainGlobals "MOST_DEPTH" = some (some (.int 5 t4)))
    (g_MOST_EXECUTED : PySem.W.nsIn K mainGlobals "MOST_EXECUTED" = some (some (.int 1000 t5)))
    (g_MOST_FUNCTIONS : PySem.W.nsIn K mainGlobals "MOST_FUNCTIONS" = some (some (.int 4 t6)))
    (g_MOST_NUMBER : PySem.W.nsIn K mainGlobals "MOST_NUMBER" = some (some (.int 1000 t7)))
    (g_MOST_PARAMETERS : PySem.W.nsIn K mainGlobals "MOST_PARAMETERS" = some (some (.int 4 t8)))
    (g_MOST_RIGHTS : PySem.W.nsIn K mainGlobals "MOST_RIGHTS" = some (some (.int 6 t9)))
    (g_MOST_STARS : PySem.W.nsIn K mainGlobals "MOST_STARS" = some (some (.int 5 t10)))
    (g_MOST_STATEMENTS : PySem.W.nsIn K mainGlobals "MOST_STATEMENTS" = some (some (.int 40 t11)))
    (lk20 : K.lookup a16 = some ⟨.type "tuple", d17, .seq #[(.str "-" t12), (.str "r" t13), (.str "rw" t14), (.str "w" t15)] n18, sl19⟩)
    (g_RIGHTS : PySem.W.nsIn K mainGlobals "RIGHTS" = some (some (.ref a16)))
    (aC_re : PySem.W.nsIn K mainGlobals "RightsError" = some (some (.ref C_re)))
    (aS_re : PySem.W.nsIn K mainGlobals "super" = some none)
    (xL_re : K.lookup C_re = some (excClassObj nm_re qq_re C_re N_re bs_re PySem.ReX.veTail true sn_re sub_re ab_re col_re dd_re k0_re k1_re k2_re k3_re k5_re "ValueError.__new__"))
    (sa_re : PySem.W.findIn K (.ref C_re) "__setattr__" = some (some (.builtin "object.__setattr__")))
    (ga_re : PySem.W.findIn K (.ref C_re) "__getattribute__" = some (some (.builtin "BaseException.__getattribute__")))
    (gg_re : PySem.W.findIn K (.ref C_re) "__getattr__" = some none)
    (nb_re : PySem.W.findIn K (.ref C_re) "reason" = some none)
    (a1_re : PySem.W.findIn K (.ref C_re) "__init__" = some (some (.ref f_re)))
    (t1_re : PySem.W.typeIn K (.ref f_re) = some (.type "function"))
    (l1_re : K.lookup f_re = some ⟨oc_re, od_re, .func (PySem.W.ksFn "__init__" "RightsError.__init__" (PySem.ReX.iA 4) (PySem.ReX.iB 4) PySem.ReX.iS .none .none doc_re pm_re an_re (.ref cda_re) ct_re cc_re), osl_re⟩)
    (c1_re : PySem.W.codeIn K (.ref cda_re) "RightsError.__init__" = true)
    (l2_re : K.lookup cc_re = some ⟨cl_re, cld_re, .cell (some (.ref C_re)), csl_re⟩)
    (l3_re : K.lookup cda_re = some ⟨ccl_re, cdd_re, .fields vs_re, ccs_re⟩)
    (v3_re : vs_re[2]? = some (.str file_re tf_re))
    (f3_re : ((l.prog.main.file : Str) == file_re) = true)
    (kC_re : PySem.W.keepIn K (.ref C_re) = true)
    (eC_re : PySem.W.subIn K (.ref C_re) (.type "BaseException") = some true)
    (vC_re : PySem.W.subIn K (.ref C_re) (.type "ValueError") = some true)
    (tC_re : PySem.W.typeIn K (.ref C_re) = some (.type "type"))
    (hC_re : PySem.W.hasDictIn K C_re = true)
    (iC_re : PySem.W.isClsIn K C_re = true)
    (sC_re : PySem.W.subIn K (.ref C_re) (.ref C_re) = some true)
    (mr_re : PySem.W.mroIn K C_re (.ref C_re) = some true)
    (an_re : PySem.W.nsIn K cStatics "thirdparty.any" = some none)
    (tp_re : (l.prog.main.scope.names.lookup ("super" : Str)).isSome = false)
    (aC_Function : PySem.W.nsIn K mainGlobals "Function" = some (some (.ref C_Function)))
    (pg_Function : PySem.W.plainGet K C_Function Str.empty = true)
    (hd_Function : PySem.W.hasDictIn K C_Function = true)
    (po_Function : PySem.W.plainOver K C_Function = true)
    (sa_Function : PySem.W.findIn K (.ref C_Function) "__setattr__" = some (some (.builtin "object.__setattr__")))
    (n_Function_body : PySem.W.findIn K (.ref C_Function) "body" = some none)
    (n_Function_name : PySem.W.findIn K (.ref C_Function) "name" = some none)
    (n_Function_params : PySem.W.findIn K (.ref C_Function) "params" = some none)
    (mk_Function : PySem.W.makesIn K C_Function = true)
    (in_Function : PySem.W.findIn K (.ref C_Function) "__init__" = some (some (.ref f_Function_i)))
    (if_Function : PySem.W.isFn K (.ref f_Function_i) = true)
    (kC_Function : PySem.W.keepIn K (.ref C_Function) = true)
    (l_Function_i : K.lookup f_Function_i = some ⟨oc_Function_i, od_Function_i, .func (PySem.W.fnOf "__init__" "Function.__init__" (defArgs S_Function___init__) (defBody S_Function___init__) (defScope S_Function___init__) .none kV_Function_i dc_Function_i pm_Function_i an_Function_i cd_Function_i ct_Function_i), sl_Function_i⟩)
    (c_Function_i : PySem.W.codeIn K cd_Function_i "Function.__init__" = true)
    (k_Function_i : PySem.W.keepIn K (.ref f_Function_i) = true)
    (ia_Function : PySem.W.findIn K (.ref C_Function) "__class__" = some (some (.builtin "object.__class__")))
    (ib_Function : PySem.W.specialIn K (.builtin "object.__class__") "__get__" = some (some (.builtin "getset_descriptor.__get__")))
    (ic_Function : PySem.W.takesIn K (.builtin "object.__class__") = some true)
    (id_Function : PySem.W.mroIn K C_Function (.type "object") = some true)
    (aC_Program : PySem.W.nsIn K mainGlobals "Program" = some (some (.ref C_Program)))
    (pg_Program : PySem.W.plainGet K C_Program Str.empty = true)
    (hd_Program : PySem.W.hasDictIn K C_Program = true)
    (po_Program : PySem.W.plainOver K C_Program = true)
    (sa_Program : PySem.W.findIn K (.ref C_Program) "__setattr__" = some (some (.builtin "object.__setattr__")))
    (n_Program_functions : PySem.W.findIn K (.ref C_Program) "functions" = some none)
    (n_Program_statements : PySem.W.findIn K (.ref C_Program) "statements" = some none)
    (mk_Program : PySem.W.makesIn K C_Program = true)
    (in_Program : PySem.W.findIn K (.ref C_Program) "__init__" = some (some (.ref f_Program_i)))
    (if_Program : PySem.W.isFn K (.ref f_Program_i) = true)
    (kC_Program : PySem.W.keepIn K (.ref C_Program) = true)
    (l_Program_i : K.lookup f_Program_i = some ⟨oc_Program_i, od_Program_i, .func (PySem.W.fnOf "__init__" "Program.__init__" (defArgs S_Program___init__) (defBody S_Program___init__) (defScope S_Program___init__) .none kV_Program_i dc_Program_i pm_Program_i an_Program_i cd_Program_i ct_Program_i), sl_Program_i⟩)
    (c_Program_i : PySem.W.codeIn K cd_Program_i "Program.__init__" = true)
    (k_Program_i : PySem.W.keepIn K (.ref f_Program_i) = true)
    (aC_Thing : PySem.W.nsIn K mainGlobals "Thing" = some (some (.ref C_Thing)))
    (pg_Thing : PySem.W.plainGet K C_Thing Str.empty = true)
    (hd_Thing : PySem.W.hasDictIn K C_Thing = true)
    (po_Thing : PySem.W.plainOver K C_Thing = true)
    (sa_Thing : PySem.W.findIn K (.ref C_Thing) "__setattr__" = some (some (.builtin "object.__setattr__")))
    (n_Thing_kind : PySem.W.findIn K (.ref C_Thing) "kind" = some none)
    (n_Thing_name : PySem.W.findIn K (.ref C_Thing) "name" = some none)
    (n_Thing_value : PySem.W.findIn K (.ref C_Thing) "value" = some none)
    (mk_Thing : PySem.W.makesIn K C_Thing = true)
    (in_Thing : PySem.W.findIn K (.ref C_Thing) "__init__" = some (some (.ref f_Thing_i)))
    (if_Thing : PySem.W.isFn K (.ref f_Thing_i) = true)
    (kC_Thing : PySem.W.keepIn K (.ref C_Thing) = true)
    (l_Thing_i : K.lookup f_Thing_i = some ⟨oc_Thing_i, od_Thing_i, .func (PySem.W.fnOf "__init__" "Thing.__init__" (defArgs S_Thing___init__) (defBody S_Thing___init__) (defScope S_Thing___init__) .none kV_Thing_i dc_Thing_i pm_Thing_i an_Thing_i cd_Thing_i ct_Thing_i), sl_Thing_i⟩)
    (c_Thing_i : PySem.W.codeIn K cd_Thing_i "Thing.__init__" = true)
    (k_Thing_i : PySem.W.keepIn K (.ref f_Thing_i) = true)
    (aC_World : PySem.W.nsIn K mainGlobals "World" = some (some (.ref C_World)))
    (pg_World : PySem.W.plainGet K C_World Str.empty = true)
    (hd_World : PySem.W.hasDictIn K C_World = true)
    (po_World : PySem.W.plainOver K C_World = true)
    (sa_World : PySem.W.findIn K (.ref C_World) "__setattr__" = some (some (.builtin "object.__setattr__")))
    (n_World_breaches : PySem.W.findIn K (.ref C_World) "breaches" = some none)
    (n_World_executed : PySem.W.findIn K (.ref C_World) "executed" = some none)
    (n_World_things : PySem.W.findIn K (.ref C_World) "things" = some none)
    (mk_World : PySem.W.makesIn K C_World = true)
    (in_World : PySem.W.findIn K (.ref C_World) "__init__" = some (some (.ref f_World_i)))
    (if_World : PySem.W.isFn K (.ref f_World_i) = true)
    (kC_World : PySem.W.keepIn K (.ref C_World) = true)
    (l_World_i : K.lookup f_World_i = some ⟨oc_World_i, od_World_i, .func (PySem.W.fnOf "__init__" "World.__init__" (defArgs S_World___init__) (defBody S_World___init__) (defScope S_World___init__) .none kV_World_i dc_World_i pm_World_i an_World_i cd_World_i ct_World_i), sl_World_i⟩)
    (c_World_i : PySem.W.codeIn K cd_World_i "World.__init__" = true)
    (k_World_i : PySem.W.keepIn K (.ref f_World_i) = true)
    (mi_World_read_i : PySem.W.findIn K (.ref C_World) "read" = some (some (.ref f_World_read_i)))
    (mf_World_read_i : PySem.W.isFn K (.ref f_World_read_i) = true)
    (l_World_read_i : K.lookup f_World_read_i = some ⟨oc_World_read_i, od_World_read_i, .func (PySem.W.fnOf "read" "World.read" (defArgs S_World_read) (defBody S_World_read) (defScope S_World_read) .none kV_World_read_i dc_World_read_i pm_World_read_i an_World_read_i cd_World_read_i ct_World_read_i), sl_World_read_i⟩)
    (c_World_read_i : PySem.W.codeIn K cd_World_read_i "World.read" = true)
    (k_World_read_i : PySem.W.keepIn K (.ref f_World_read_i) = true)
    (mi_World_make_i : PySem.W.findIn K (.ref C_World) "make" = some (some (.ref f_World_make_i)))
    (mf_World_make_i : PySem.W.isFn K (.ref f_World_make_i) = true)
    (l_World_make_i : K.lookup f_World_make_i = some ⟨oc_World_make_i, od_World_make_i, .func (PySem.W.fnOf "make" "World.make" (defArgs S_World_make) (defBody S_World_make) (defScope S_World_make) .none kV_World_make_i dc_World_make_i pm_World_make_i an_World_make_i cd_World_make_i ct_World_make_i), sl_World_make_i⟩)
    (c_World_make_i : PySem.W.codeIn K cd_World_make_i "World.make" = true)
    (k_World_make_i : PySem.W.keepIn K (.ref f_World_make_i) = true)
    (mi_World_write_i : PySem.W.findIn K (.ref C_World) "write" = some (some (.ref f_World_write_i)))
    (mf_World_write_i : PySem.W.isFn K (.ref f_World_write_i) = true)
    (l_World_write_i : K.lookup f_World_write_i = some ⟨oc_World_write_i, od_World_write_i, .func (PySem.W.fnOf "write" "World.write" (defArgs S_World_write) (defBody S_World_write) (defScope S_World_write) .none kV_World_write_i dc_World_write_i pm_World_write_i an_World_write_i cd_World_write_i ct_World_write_i), sl_World_write_i⟩)
    (c_World_write_i : PySem.W.codeIn K cd_World_write_i "World.write" = true)
    (k_World_write_i : PySem.W.keepIn K (.ref f_World_write_i) = true)
    (a__law_cell : PySem.W.nsIn K mainGlobals "_law_cell" = some (some (.ref f__law_cell)))
    (l__law_cell : K.lookup f__law_cell = some ⟨oc__law_cell, od__law_cell, .func (PySem.W.fnOf "_law_cell" "_law_cell" (defArgs S__law_cell) (defBody S__law_cell) (defScope S__law_cell) .none kV__law_cell dc__law_cell pm__law_cell an__law_cell cd__law_cell ct__law_cell), sl__law_cell⟩)
    (c__law_cell : PySem.W.codeIn K cd__law_cell "_law_cell" = true)
    (k__law_cell : PySem.W.keepIn K (.ref f__law_cell) = true)
    (a__law_row : PySem.W.nsIn K mainGlobals "_law_row" = some (some (.ref f__law_row)))
    (l__law_row : K.lookup f__law_row = some ⟨oc__law_row, od__law_row, .func (PySem.W.fnOf "_law_row" "_law_row" (defArgs S__law_row) (defBody S__law_row) (defScope S__law_row) .none kV__law_row dc__law_row pm__law_row an__law_row cd__law_row ct__law_row), sl__law_row⟩)
    (c__law_row : PySem.W.codeIn K cd__law_row "_law_row" = true)
    (k__law_row : PySem.W.keepIn K (.ref f__law_row) = true)
    (a__law_draw : PySem.W.nsIn K mainGlobals "_law_draw" = some (some (.ref f__law_draw)))
    (l__law_draw : K.lookup f__law_draw = some ⟨oc__law_draw, od__law_draw, .func (PySem.W.fnOf "_law_draw" "_law_draw" (defArgs S__law_draw) (defBody S__law_draw) (defScope S__law_draw) .none kV__law_draw dc__law_draw pm__law_draw an__law_draw cd__law_draw ct__law_draw), sl__law_draw⟩)
    (c__law_draw : PySem.W.codeIn K cd__law_draw "_law_draw" = true)
    (k__law_draw : PySem.W.keepIn K (.ref f__law_draw) = true)
    (a__law_right : PySem.W.nsIn K mainGlobals "_law_right" = some (some (.ref f__law_right)))
    (l__law_right : K.lookup f__law_right = some ⟨oc__law_right, od__law_right, .func (PySem.W.fnOf "_law_right" "_law_right" (defArgs S__law_right) (defBody S__law_right) (defScope S__law_right) .none kV__law_right dc__law_right pm__law_right an__law_right cd__law_right ct__law_right), sl__law_right⟩)
    (c__law_right : PySem.W.codeIn K cd__law_right "_law_right" = true)
    (k__law_right : PySem.W.keepIn K (.ref f__law_right) = true)
    (a__law_rights : PySem.W.nsIn K mainGlobals "_law_rights" = some (some (.ref f__law_rights)))
    (l__law_rights : K.lookup f__law_rights = some ⟨oc__law_rights, od__law_rights, .func (PySem.W.fnOf "_law_rights" "_law_rights" (defArgs S__law_rights) (defBody S__law_rights) (defScope S__law_rights) .none kV__law_rights dc__law_rights pm__law_rights an__law_rights cd__law_rights ct__law_rights), sl__law_rights⟩)
    (c__law_rights : PySem.W.codeIn K cd__law_rights "_law_rights" = true)
    (k__law_rights : PySem.W.keepIn K (.ref f__law_rights) = true)
    (a__law_pair : PySem.W.nsIn K mainGlobals "_law_pair" = some (some (.ref f__law_pair)))
    (l__law_pair : K.lookup f__law_pair = some ⟨oc__law_pair, od__law_pair, .func (PySem.W.fnOf "_law_pair" "_law_pair" (defArgs S__law_pair) (defBody S__law_pair) (defScope S__law_pair) .none kV__law_pair dc__law_pair pm__law_pair an__law_pair cd__law_pair ct__law_pair), sl__law_pair⟩)
    (c__law_pair : PySem.W.codeIn K cd__law_pair "_law_pair" = true)
    (k__law_pair : PySem.W.keepIn K (.ref f__law_pair) = true)
    (a__find : PySem.W.nsIn K mainGlobals "_find" = some (some (.ref f__find)))
    (l__find : K.lookup f__find = some ⟨oc__find, od__find, .func (PySem.W.fnOf "_find" "_find" (defArgs S__find) (defBody S__find) (defScope S__find) .none kV__find dc__find pm__find an__find cd__find ct__find), sl__find⟩)
    (c__find : PySem.W.codeIn K cd__find "_find" = true)
    (k__find : PySem.W.keepIn K (.ref f__find) = true)
    (a_converts : PySem.W.nsIn K mainGlobals "converts" = some (some (.ref f_converts)))
    (l_converts : K.lookup f_converts = some ⟨oc_converts, od_converts, .func (PySem.W.fnOf "converts" "converts" (defArgs S_converts) (defBody S_converts) (defScope S_converts) .none kV_converts dc_converts pm_converts an_converts cd_converts ct_converts), sl_converts⟩)
    (c_converts : PySem.W.codeIn K cd_converts "converts" = true)
    (k_converts : PySem.W.keepIn K (.ref f_converts) = true)
    (a_bar : PySem.W.nsIn K mainGlobals "bar" = some (some (.ref f_bar)))
    (l_bar : K.lookup f_bar = some ⟨oc_bar, od_bar, .func (PySem.W.fnOf "bar" "bar" (defArgs S_bar) (defBody S_bar) (defScope S_bar) .none kV_bar dc_bar pm_bar an_bar cd_bar ct_bar), sl_bar⟩)
    (c_bar : PySem.W.codeIn K cd_bar "bar" = true)
    (k_bar : PySem.W.keepIn K (.ref f_bar) = true)
    (a__steps : PySem.W.nsIn K mainGlobals "_steps" = some (some (.ref f__steps)))
    (l__steps : K.lookup f__steps = some ⟨oc__steps, od__steps, .func (PySem.W.fnOf "_steps" "_steps" (defArgs S__steps) (defBody S__steps) (defScope S__steps) .none kV__steps dc__steps pm__steps an__steps cd__steps ct__steps), sl__steps⟩)
    (c__steps : PySem.W.codeIn K cd__steps "_steps" = true)
    (k__steps : PySem.W.keepIn K (.ref f__steps) = true)
    (a__copied : PySem.W.nsIn K mainGlobals "_copied" = some (some (.ref f__copied)))
    (l__copied : K.lookup f__copied = some ⟨oc__copied, od__copied, .func (PySem.W.fnOf "_copied" "_copied" (defArgs S__copied) (defBody S__copied) (defScope S__copied) .none kV__copied dc__copied pm__copied an__copied cd__copied ct__copied), sl__copied⟩)
    (c__copied : PySem.W.codeIn K cd__copied "_copied" = true)
    (k__copied : PySem.W.keepIn K (.ref f__copied) = true)
    (a_copied : PySem.W.nsIn K mainGlobals "copied" = some (some (.ref f_copied)))
    (l_copied : K.lookup f_copied = some ⟨oc_copied, od_copied, .func (PySem.W.fnOf "copied" "copied" (defArgs S_copied) (defBody S_copied) (defScope S_copied) .none kV_copied dc_copied pm_copied an_copied cd_copied ct_copied), sl_copied⟩)
    (c_copied : PySem.W.codeIn K cd_copied "copied" = true)
    (k_copied : PySem.W.keepIn K (.ref f_copied) = true)
    (a__are_calls : PySem.W.nsIn K mainGlobals "_are_calls" = some (some (.ref f__are_calls)))
    (l__are_calls : K.lookup f__are_calls = some ⟨oc__are_calls, od__are_calls, .func (PySem.W.fnOf "_are_calls" "_are_calls" (defArgs S__are_calls) (defBody S__are_calls) (defScope S__are_calls) .none kV__are_calls dc__are_calls pm__are_calls an__are_calls cd__are_calls ct__are_calls), sl__are_calls⟩)
    (c__are_calls : PySem.W.codeIn K cd__are_calls "_are_calls" = true)
    (k__are_calls : PySem.W.keepIn K (.ref f__are_calls) = true)
    (a_is_name : PySem.W.nsIn K mainGlobals "is_name" = some (some (.ref f_is_name)))
    (l_is_name : K.lookup f_is_name = some ⟨oc_is_name, od_is_name, .func (PySem.W.fnOf "is_name" "is_name" (defArgs S_is_name) (defBody S_is_name) (defScope S_is_name) .none kV_is_name dc_is_name pm_is_name an_is_name cd_is_name ct_is_name), sl_is_name⟩)
    (c_is_name : PySem.W.codeIn K cd_is_name "is_name" = true)
    (k_is_name : PySem.W.keepIn K (.ref f_is_name) = true)
    (a_is_right : PySem.W.nsIn K mainGlobals "is_right" = some (some (.ref f_is_right)))
    (l_is_right : K.lookup f_is_right = some ⟨oc_is_right, od_is_right, .func (PySem.W.fnOf "is_right" "is_right" (defArgs S_is_right) (defBody S_is_right) (defScope S_is_right) .none kV_is_right dc_is_right pm_is_right an_is_right cd_is_right ct_is_right), sl_is_right⟩)
    (c_is_right : PySem.W.codeIn K cd_is_right "is_right" = true)
    (k_is_right : PySem.W.keepIn K (.ref f_is_right) = true)
    (a_is_value_type : PySem.W.nsIn K mainGlobals "is_value_type" = some (some (.ref f_is_value_type)))
    (l_is_value_type : K.lookup f_is_value_type = some ⟨oc_is_value_type, od_is_value_type, .func (PySem.W.fnOf "is_value_type" "is_value_type" (defArgs S_is_value_type) (defBody S_is_value_type) (defScope S_is_value_type) .none kV_is_value_type dc_is_value_type pm_is_value_type an_is_value_type cd_is_value_type ct_is_value_type), sl_is_value_type⟩)
    (c_is_value_type : PySem.W.codeIn K cd_is_value_type "is_value_type" = true)
    (k_is_value_type : PySem.W.keepIn K (.ref f_is_value_type) = true)
    (a_is_type : PySem.W.nsIn K mainGlobals "is_type" = some (some (.ref f_is_type)))
    (l_is_type : K.lookup f_is_type = some ⟨oc_is_type, od_is_type, .func (PySem.W.fnOf "is_type" "is_type" (defArgs S_is_type) (defBody S_is_type) (defScope S_is_type) .none kV_is_type dc_is_type pm_is_type an_is_type cd_is_type ct_is_type), sl_is_type⟩)
    (c_is_type : PySem.W.codeIn K cd_is_type "is_type" = true)
    (k_is_type : PySem.W.keepIn K (.ref f_is_type) = true)
    (a_is_number : PySem.W.nsIn K mainGlobals "is_number" = some (some (.ref f_is_number)))
    (l_is_number : K.lookup f_is_number = some ⟨oc_is_number, od_is_number, .func (PySem.W.fnOf "is_number" "is_number" (defArgs S_is_number) (defBody S_is_number) (defScope S_is_number) .none kV_is_number dc_is_number pm_is_number an_is_number cd_is_number ct_is_number), sl_is_number⟩)
    (c_is_number : PySem.W.codeIn K cd_is_number "is_number" = true)
    (k_is_number : PySem.W.keepIn K (.ref f_is_number) = true)
    (a_is_depth : PySem.W.nsIn K mainGlobals "is_depth" = some (some (.ref f_is_depth)))
    (l_is_depth : K.lookup f_is_depth = some ⟨oc_is_depth, od_is_depth, .func (PySem.W.fnOf "is_depth" "is_depth" (defArgs S_is_depth) (defBody S_is_depth) (defScope S_is_depth) .none kV_is_depth dc_is_depth pm_is_depth an_is_depth cd_is_depth ct_is_depth), sl_is_depth⟩)
    (c_is_depth : PySem.W.codeIn K cd_is_depth "is_depth" = true)
    (k_is_depth : PySem.W.keepIn K (.ref f_is_depth) = true)
    (a_is_place : PySem.W.nsIn K mainGlobals "is_place" = some (some (.ref f_is_place)))
    (l_is_place : K.lookup f_is_place = some ⟨oc_is_place, od_is_place, .func (PySem.W.fnOf "is_place" "is_place" (defArgs S_is_place) (defBody S_is_place) (defScope S_is_place) .none kV_is_place dc_is_place pm_is_place an_is_place cd_is_place ct_is_place), sl_is_place⟩)
    (c_is_place : PySem.W.codeIn K cd_is_place "is_place" = true)
    (k_is_place : PySem.W.keepIn K (.ref f_is_place) = true)
    (a_is_source : PySem.W.nsIn K mainGlobals "is_source" = some (some (.ref f_is_source)))
    (l_is_source : K.lookup f_is_source = some ⟨oc_is_source, od_is_source, .func (PySem.W.fnOf "is_source" "is_source" (defArgs S_is_source) (defBody S_is_source) (defScope S_is_source) .none kV_is_source dc_is_source pm_is_source an_is_source cd_is_source ct_is_source), sl_is_source⟩)
    (c_is_source : PySem.W.codeIn K cd_is_source "is_source" = true)
    (k_is_source : PySem.W.keepIn K (.ref f_is_source) = true)
    (a_is_statement : PySem.W.nsIn K mainGlobals "is_statement" = some (some (.ref f_is_statement)))
    (l_is_statement : K.lookup f_is_statement = some ⟨oc_is_statement, od_is_statement, .func (PySem.W.fnOf "is_statement" "is_statement" (defArgs S_is_statement) (defBody S_is_statement) (defScope S_is_statement) .none kV_is_statement dc_is_statement pm_is_statement an_is_statement cd_is_statement ct_is_statement), sl_is_statement⟩)
    (c_is_statement : PySem.W.codeIn K cd_is_statement "is_statement" = true)
    (k_is_statement : PySem.W.keepIn K (.ref f_is_statement) = true)
    (a__is_block : PySem.W.nsIn K mainGlobals "_is_block" = some (some (.ref f__is_block)))
    (l__is_block : K.lookup f__is_block = some ⟨oc__is_block, od__is_block, .func (PySem.W.fnOf "_is_block" "_is_block" (defArgs S__is_block) (defBody S__is_block) (defScope S__is_block) .none kV__is_block dc__is_block pm__is_block an__is_block cd__is_block ct__is_block), sl__is_block⟩)
    (c__is_block : PySem.W.codeIn K cd__is_block "_is_block" = true)
    (k__is_block : PySem.W.keepIn K (.ref f__is_block) = true)
    (a__made : PySem.W.nsIn K mainGlobals "_made" = some (some (.ref f__made)))
    (l__made : K.lookup f__made = some ⟨oc__made, od__made, .func (PySem.W.fnOf "_made" "_made" (defArgs S__made) (defBody S__made) (defScope S__made) .none kV__made dc__made pm__made an__made cd__made ct__made), sl__made⟩)
    (c__made : PySem.W.codeIn K cd__made "_made" = true)
    (k__made : PySem.W.keepIn K (.ref f__made) = true)
    (a_names_of : PySem.W.nsIn K mainGlobals "names_of" = some (some (.ref f_names_of)))
    (l_names_of : K.lookup f_names_of = some ⟨oc_names_of, od_names_of, .func (PySem.W.fnOf "names_of" "names_of" (defArgs S_names_of) (defBody S_names_of) (defScope S_names_of) .none kV_names_of dc_names_of pm_names_of an_names_of cd_names_of ct_names_of), sl_names_of⟩)
    (c_names_of : PySem.W.codeIn K cd_names_of "names_of" = true)
    (k_names_of : PySem.W.keepIn K (.ref f_names_of) = true)
    (a__is_parameter : PySem.W.nsIn K mainGlobals "_is_parameter" = some (some (.ref f__is_parameter)))
    (l__is_parameter : K.lookup f__is_parameter = some ⟨oc__is_parameter, od__is_parameter, .func (PySem.W.fnOf "_is_parameter" "_is_parameter" (defArgs S__is_parameter) (defBody S__is_parameter) (defScope S__is_parameter) .none kV__is_parameter dc__is_parameter pm__is_parameter an__is_parameter cd__is_parameter ct__is_parameter), sl__is_parameter⟩)
    (c__is_parameter : PySem.W.codeIn K cd__is_parameter "_is_parameter" = true)
    (k__is_parameter : PySem.W.keepIn K (.ref f__is_parameter) = true)
    (a__is_function : PySem.W.nsIn K mainGlobals "_is_function" = some (some (.ref f__is_function)))
    (l__is_function : K.lookup f__is_function = some ⟨oc__is_function, od__is_function, .func (PySem.W.fnOf "_is_function" "_is_function" (defArgs S__is_function) (defBody S__is_function) (defScope S__is_function) .none kV__is_function dc__is_function pm__is_function an__is_function cd__is_function ct__is_function), sl__is_function⟩)
    (c__is_function : PySem.W.codeIn K cd__is_function "_is_function" = true)
    (k__is_function : PySem.W.keepIn K (.ref f__is_function) = true)
    (a__is_program : PySem.W.nsIn K mainGlobals "_is_program" = some (some (.ref f__is_program)))
    (l__is_program : K.lookup f__is_program = some ⟨oc__is_program, od__is_program, .func (PySem.W.fnOf "_is_program" "_is_program" (defArgs S__is_program) (defBody S__is_program) (defScope S__is_program) .none kV__is_program dc__is_program pm__is_program an__is_program cd__is_program ct__is_program), sl__is_program⟩)
    (c__is_program : PySem.W.codeIn K cd__is_program "_is_program" = true)
    (k__is_program : PySem.W.keepIn K (.ref f__is_program) = true)
    (a__empty : PySem.W.nsIn K mainGlobals "_empty" = some (some (.ref f__empty)))
    (l__empty : K.lookup f__empty = some ⟨oc__empty, od__empty, .func (PySem.W.fnOf "_empty" "_empty" (defArgs S__empty) (defBody S__empty) (defScope S__empty) .none kV__empty dc__empty pm__empty an__empty cd__empty ct__empty), sl__empty⟩)
    (c__empty : PySem.W.codeIn K cd__empty "_empty" = true)
    (k__empty : PySem.W.keepIn K (.ref f__empty) = true)
    (a__converter : PySem.W.nsIn K mainGlobals "_converter" = some (some (.ref f__converter)))
    (l__converter : K.lookup f__converter = some ⟨oc__converter, od__converter, .func (PySem.W.fnOf "_converter" "_converter" (defArgs S__converter) (defBody S__converter) (defScope S__converter) .none kV__converter dc__converter pm__converter an__converter cd__converter ct__converter), sl__converter⟩)
    (c__converter : PySem.W.codeIn K cd__converter "_converter" = true)
    (k__converter : PySem.W.keepIn K (.ref f__converter) = true)
    (a_breaking : PySem.W.nsIn K mainGlobals "breaking" = some (some (.ref f_breaking)))
    (l_breaking : K.lookup f_breaking = some ⟨oc_breaking, od_breaking, .func (PySem.W.fnOf "breaking" "breaking" (defArgs S_breaking) (defBody S_breaking) (defScope S_breaking) .none kV_breaking dc_breaking pm_breaking an_breaking cd_breaking ct_breaking), sl_breaking⟩)
    (c_breaking : PySem.W.codeIn K cd_breaking "breaking" = true)
    (k_breaking : PySem.W.keepIn K (.ref f_breaking) = true)
    (a_function_of : PySem.W.nsIn K mainGlobals "function_of" = some (some (.ref f_function_of)))
    (l_function_of : K.lookup f_function_of = some ⟨oc_function_of, od_function_of, .func (PySem.W.fnOf "function_of" "function_of" (defArgs S_function_of) (defBody S_function_of) (defScope S_function_of) .none kV_function_of dc_function_of pm_function_of an_function_of cd_function_of ct_function_of), sl_function_of⟩)
    (c_function_of : PySem.W.codeIn K cd_function_of "function_of" = true)
    (k_function_of : PySem.W.keepIn K (.ref f_function_of) = true)
    (a_place_fault : PySem.W.nsIn K mainGlobals "place_fault" = some (some (.ref f_place_fault)))
    (l_place_fault : K.lookup f_place_fault = some ⟨oc_place_fault, od_place_fault, .func (PySem.W.fnOf "place_fault" "place_fault" (defArgs S_place_fault) (defBody S_place_fault) (defScope S_place_fault) .none kV_place_fault dc_place_fault pm_place_fault an_place_fault cd_place_fault ct_place_fault), sl_place_fault⟩)
    (c_place_fault : PySem.W.codeIn K cd_place_fault "place_fault" = true)
    (k_place_fault : PySem.W.keepIn K (.ref f_place_fault) = true)
    (a_seen_type : PySem.W.nsIn K mainGlobals "seen_type" = some (some (.ref f_seen_type)))
    (l_seen_type : K.lookup f_seen_type = some ⟨oc_seen_type, od_seen_type, .func (PySem.W.fnOf "seen_type" "seen_type" (defArgs S_seen_type) (defBody S_seen_type) (defScope S_seen_type) .none kV_seen_type dc_seen_type pm_seen_type an_seen_type cd_seen_type ct_seen_type), sl_seen_type⟩)
    (c_seen_type : PySem.W.codeIn K cd_seen_type "seen_type" = true)
    (k_seen_type : PySem.W.keepIn K (.ref f_seen_type) = true)
    (a__conversion_fault : PySem.W.nsIn K mainGlobals "_conversion_fault" = some (some (.ref f__conversion_fault)))
    (l__conversion_fault : K.lookup f__conversion_fault = some ⟨oc__conversion_fault, od__conversion_fault, .func (PySem.W.fnOf "_conversion_fault" "_conversion_fault" (defArgs S__conversion_fault) (defBody S__conversion_fault) (defScope S__conversion_fault) .none kV__conversion_fault dc__conversion_fault pm__conversion_fault an__conversion_fault cd__conversion_fault ct__conversion_fault), sl__conversion_fault⟩)
    (c__conversion_fault : PySem.W.codeIn K cd__conversion_fault "_conversion_fault" = true)
    (k__conversion_fault : PySem.W.keepIn K (.ref f__conversion_fault) = true)
    (a_source_fault : PySem.W.nsIn K mainGlobals "source_fault" = some (some (.ref f_source_fault)))
    (l_source_fault : K.lookup f_source_fault = some ⟨oc_source_fault, od_source_fault, .func (PySem.W.fnOf "source_fault" "source_fault" (defArgs S_source_fault) (defBody S_source_fault) (defScope S_source_fault) .none kV_source_fault dc_source_fault pm_source_fault an_source_fault cd_source_fault ct_source_fault), sl_source_fault⟩)
    (c_source_fault : PySem.W.codeIn K cd_source_fault "source_fault" = true)
    (k_source_fault : PySem.W.keepIn K (.ref f_source_fault) = true)
    (a__put_fault : PySem.W.nsIn K mainGlobals "_put_fault" = some (some (.ref f__put_fault)))
    (l__put_fault : K.lookup f__put_fault = some ⟨oc__put_fault, od__put_fault, .func (PySem.W.fnOf "_put_fault" "_put_fault" (defArgs S__put_fault) (defBody S__put_fault) (defScope S__put_fault) .none kV__put_fault dc__put_fault pm__put_fault an__put_fault cd__put_fault ct__put_fault), sl__put_fault⟩)
    (c__put_fault : PySem.W.codeIn K cd__put_fault "_put_fault" = true)
    (k__put_fault : PySem.W.keepIn K (.ref f__put_fault) = true)
    (a_statement_fault : PySem.W.nsIn K mainGlobals "statement_fault" = some (some (.ref f_statement_fault)))
    (l_statement_fault : K.lookup f_statement_fault = some ⟨oc_statement_fault, od_statement_fault, .func (PySem.W.fnOf "statement_fault" "statement_fault" (defArgs S_statement_fault) (defBody S_statement_fault) (defScope S_statement_fault) .none kV_statement_fault dc_statement_fault pm_statement_fault an_statement_fault cd_statement_fault ct_statement_fault), sl_statement_fault⟩)
    (c_statement_fault : PySem.W.codeIn K cd_statement_fault "statement_fault" = true)
    (k_statement_fault : PySem.W.keepIn K (.ref f_statement_fault) = true)
    (a_block_faults : PySem.W.nsIn K mainGlobals "block_faults" = some (some (.ref f_block_faults)))
    (l_block_faults : K.lookup f_block_faults = some ⟨oc_block_faults, od_block_faults, .func (PySem.W.fnOf "block_faults" "block_faults" (defArgs S_block_faults) (defBody S_block_faults) (defScope S_block_faults) .none kV_block_faults dc_block_faults pm_block_faults an_block_faults cd_block_faults ct_block_faults), sl_block_faults⟩)
    (c_block_faults : PySem.W.codeIn K cd_block_faults "block_faults" = true)
    (k_block_faults : PySem.W.keepIn K (.ref f_block_faults) = true)
    (a_faults : PySem.W.nsIn K mainGlobals "faults" = some (some (.ref f_faults)))
    (l_faults : K.lookup f_faults = some ⟨oc_faults, od_faults, .func (PySem.W.fnOf "faults" "faults" (defArgs S_faults) (defBody S_faults) (defScope S_faults) .none kV_faults dc_faults pm_faults an_faults cd_faults ct_faults), sl_faults⟩)
    (c_faults : PySem.W.codeIn K cd_faults "faults" = true)
    (k_faults : PySem.W.keepIn K (.ref f_faults) = true)
    (a_is_let_by : PySem.W.nsIn K mainGlobals "is_let_by" = some (some (.ref f_is_let_by)))
    (l_is_let_by : K.lookup f_is_let_by = some ⟨oc_is_let_by, od_is_let_by, .func (PySem.W.fnOf "is_let_by" "is_let_by" (defArgs S_is_let_by) (defBody S_is_let_by) (defScope S_is_let_by) .none kV_is_let_by dc_is_let_by pm_is_let_by an_is_let_by cd_is_let_by ct_is_let_by), sl_is_let_by⟩)
    (c_is_let_by : PySem.W.codeIn K cd_is_let_by "is_let_by" = true)
    (k_is_let_by : PySem.W.keepIn K (.ref f_is_let_by) = true)
    (a__thing_at : PySem.W.nsIn K mainGlobals "_thing_at" = some (some (.ref f__thing_at)))
    (l__thing_at : K.lookup f__thing_at = some ⟨oc__thing_at, od__thing_at, .func (PySem.W.fnOf "_thing_at" "_thing_at" (defArgs S__thing_at) (defBody S__thing_at) (defScope S__thing_at) .none kV__thing_at dc__thing_at pm__thing_at an__thing_at cd__thing_at ct__thing_at), sl__thing_at⟩)
    (c__thing_at : PySem.W.codeIn K cd__thing_at "_thing_at" = true)
    (k__thing_at : PySem.W.keepIn K (.ref f__thing_at) = true)
    (a__looked_up : PySem.W.nsIn K mainGlobals "_looked_up" = some (some (.ref f__looked_up)))
    (l__looked_up : K.lookup f__looked_up = some ⟨oc__looked_up, od__looked_up, .func (PySem.W.fnOf "_looked_up" "_looked_up" (defArgs S__looked_up) (defBody S__looked_up) (defScope S__looked_up) .none kV__looked_up dc__looked_up pm__looked_up an__looked_up cd__looked_up ct__looked_up), sl__looked_up⟩)
    (c__looked_up : PySem.W.codeIn K cd__looked_up "_looked_up" = true)
    (k__looked_up : PySem.W.keepIn K (.ref f__looked_up) = true)
    (a__all_looked_up : PySem.W.nsIn K mainGlobals "_all_looked_up" = some (some (.ref f__all_looked_up)))
    (l__all_looked_up : K.lookup f__all_looked_up = some ⟨oc__all_looked_up, od__all_looked_up, .func (PySem.W.fnOf "_all_looked_up" "_all_looked_up" (defArgs S__all_looked_up) (defBody S__all_looked_up) (defScope S__all_looked_up) .none kV__all_looked_up dc__all_looked_up pm__all_looked_up an__all_looked_up cd__all_looked_up ct__all_looked_up), sl__all_looked_up⟩)
    (c__all_looked_up : PySem.W.codeIn K cd__all_looked_up "_all_looked_up" = true)
    (k__all_looked_up : PySem.W.keepIn K (.ref f__all_looked_up) = true)
    (a__put : PySem.W.nsIn K mainGlobals "_put" = some (some (.ref f__put)))
    (l__put : K.lookup f__put = some ⟨oc__put, od__put, .func (PySem.W.fnOf "_put" "_put" (defArgs S__put) (defBody S__put) (defScope S__put) .none kV__put dc__put pm__put an__put cd__put ct__put), sl__put⟩)
    (c__put : PySem.W.codeIn K cd__put "_put" = true)
    (k__put : PySem.W.keepIn K (.ref f__put) = true)
    (a_act_all : PySem.W.nsIn K mainGlobals "act_all" = some (some (.ref f_act_all)))
    (l_act_all : K.lookup f_act_all = some ⟨oc_act_all, od_act_all, .func (PySem.W.fnOf "act_all" "act_all" (defArgs S_act_all) (defBody S_act_all) (defScope S_act_all) .none kV_act_all dc_act_all pm_act_all an_act_all cd_act_all ct_act_all), sl_act_all⟩)
    (c_act_all : PySem.W.codeIn K cd_act_all "act_all" = true)
    (k_act_all : PySem.W.keepIn K (.ref f_act_all) = true)
    (a__call : PySem.W.nsIn K mainGlobals "_call" = some (some (.ref f__call)))
    (l__call : K.lookup f__call = some ⟨oc__call, od__call, .func (PySem.W.fnOf "_call" "_call" (defArgs S__call) (defBody S__call) (defScope S__call) .none kV__call dc__call pm__call an__call cd__call ct__call), sl__call⟩)
    (c__call : PySem.W.codeIn K cd__call "_call" = true)
    (k__call : PySem.W.keepIn K (.ref f__call) = true)
    (a_act : PySem.W.nsIn K mainGlobals "act" = some (some (.ref f_act)))
    (l_act : K.lookup f_act = some ⟨oc_act, od_act, .func (PySem.W.fnOf "act" "act" (defArgs S_act) (defBody S_act) (defScope S_act) .none kV_act dc_act pm_act an_act cd_act ct_act), sl_act⟩)
    (c_act : PySem.W.codeIn K cd_act "act" = true)
    (k_act : PySem.W.keepIn K (.ref f_act) = true)
    (a_shown_things : PySem.W.nsIn K mainGlobals "shown_things" = some (some (.ref f_shown_things)))
    (l_shown_things : K.lookup f_shown_things = some ⟨oc_shown_things, od_shown_things, .func (PySem.W.fnOf "shown_things" "shown_things" (defArgs S_shown_things) (defBody S_shown_things) (defScope S_shown_things) .none kV_shown_things dc_shown_things pm_shown_things an_shown_things cd_shown_things ct_shown_things), sl_shown_things⟩)
    (c_shown_things : PySem.W.codeIn K cd_shown_things "shown_things" = true)
    (k_shown_things : PySem.W.keepIn K (.ref f_shown_things) = true)
    (a_run : PySem.W.nsIn K mainGlobals "run" = some (some (.ref f_run)))
    (l_run : K.lookup f_run = some ⟨oc_run, od_run, .func (PySem.W.fnOf "run" "run" (defArgs S_run) (defBody S_run) (defScope S_run) .none kV_run dc_run pm_run an_run cd_run ct_run), sl_run⟩)
    (c_run : PySem.W.codeIn K cd_run "run" = true)
    (k_run : PySem.W.keepIn K (.ref f_run) = true)
    (a_is_breaking : PySem.W.nsIn K mainGlobals "is_breaking" = some (some (.ref f_is_breaking)))
    (l_is_breaking : K.lookup f_is_breaking = some ⟨oc_is_breaking, od_is_breaking, .func (PySem.W.fnOf "is_breaking" "is_breaking" (defArgs S_is_breaking) (defBody S_is_breaking) (defScope S_is_breaking) .none kV_is_breaking dc_is_breaking pm_is_breaking an_is_breaking cd_is_breaking ct_is_breaking), sl_is_breaking⟩)
    (c_is_breaking : PySem.W.codeIn K cd_is_breaking "is_breaking" = true)
    (k_is_breaking : PySem.W.keepIn K (.ref f_is_breaking) = true)
    (a_is_bar : PySem.W.nsIn K mainGlobals "is_bar" = some (some (.ref f_is_bar)))
    (l_is_bar : K.lookup f_is_bar = some ⟨oc_is_bar, od_is_bar, .func (PySem.W.fnOf "is_bar" "is_bar" (defArgs S_is_bar) (defBody S_is_bar) (defScope S_is_bar) .none kV_is_bar dc_is_bar pm_is_bar an_is_bar cd_is_bar ct_is_bar), sl_is_bar⟩)
    (c_is_bar : PySem.W.codeIn K cd_is_bar "is_bar" = true)
    (k_is_bar : PySem.W.keepIn K (.ref f_is_bar) = true)
    (a_law : PySem.W.nsIn K mainGlobals "law" = some (some (.ref f_law)))
    (l_law : K.lookup f_law = some ⟨oc_law, od_law, .func (PySem.W.fnOf "law" "law" (defArgs S_law) (defBody S_law) (defScope S_law) .none kV_law dc_law pm_law an_law cd_law ct_law), sl_law⟩)
    (c_law : PySem.W.codeIn K cd_law "law" = true)
    (k_law : PySem.W.keepIn K (.ref f_law) = true)
    (hf : ∀ ns : List Int, ns.length ≤ 63 → (∀ z ∈ ns, Builtin.Int.intBits z ≤ 1048576) → ∃ o, Ir.law.fn [some (.fz (lkI ns))] = .ok (.fz (.bl true)) o) :
    ∃ fd : FuncData, (∀ (s : Shared) (v : Value), BindsTo s fd ⟨[v], []⟩ [("_law_script", v)]) ∧ ∀ base : Heap, K.In base → base.Ns mainGlobals mg → FnOk l.prog w K mg base (L2.CX l.prog w) 38 fa fd ["_law_script"] (spLaw K) := by
  have e := hfa.symm.trans (PySem.W.mg_of X G a_law)
  cases e
  have E : ∀ base, En l.prog w K mg base := fun base => ⟨PySem.W.mg_none_of X G z_abs, PySem.W.mg_none_of X G z_all, PySem.W.mg_none_of X G z_bool, PySem.W.mg_none_of X G z_enumerate, PySem.W.mg_none_of X G z_int, PySem.W.mg_none_of X G z_isinstance, PySem.W.mg_none_of X G z_len, PySem.W.mg_none_of X G z_list, PySem.W.mg_none_of X G z_range, PySem.W.mg_none_of X G z_str, PySem.W.mg_none_of X G z_tuple, PySem.W.mg_none_of X G z_zip, ⟨_, (.str "abcdefghijklmnopqrstuvwxyz"), PySem.W.mg_of X G g_LETTERS, ⟨t1, rfl⟩, (fun _ => dr_str rfl (by decide +kernel))⟩, ⟨_, (.int 8), PySem.W.mg_of X G g_LONGEST_NAME, ⟨t2, rfl⟩, (fun _ => .int _)⟩, ⟨_, (.int 12), PySem.W.mg_of X G g_MOST_BODY, ⟨t3, rfl⟩, (fun _ => .int _)⟩, ⟨_, (.int 5), PySem.W.mg_of X G g_MOST_DEPTH, ⟨t4, rfl⟩, (fun _ => .int _)⟩, ⟨_, (.int 1000), PySem.W.mg_of X G g_MOST_EXECUTED, ⟨t5, rfl⟩, (fun _ => .int _)⟩, ⟨_, (.int 4), PySem.W.mg_of X G g_MOST_FUNCTIONS, ⟨t6, rfl⟩, (fun _ => .int _)⟩, ⟨_, (.int 1000), PySem.W.mg_of X G g_MOST_NUMBER, ⟨t7, rfl⟩, (fun _ => .int _)⟩, ⟨_, (.int 4), PySem.W.mg_of X G g_MOST_PARAMETERS, ⟨t8, rfl⟩, (fun _ => .int _)⟩, ⟨_, (.int 6), PySem.W.mg_of X G g_MOST_RIGHTS, ⟨t9, rfl⟩, (fun _ => .int _)⟩, ⟨_, (.int 5), PySem.W.mg_of X G g_MOST_STARS, ⟨t10, rfl⟩, (fun _ => .int _)⟩, ⟨_, (.int 40), PySem.W.mg_of X G g_MOST_STATEMENTS, ⟨t11, rfl⟩, (fun _ => .int _)⟩, ⟨_, (.ref a16), PySem.W.mg_of X G g_RIGHTS, rfl, (dr_tup (vs := [(.str "-"), (.str "r"), (.str "rw"), (.str "w")]) lk20 (.cons (⟨t12, rfl⟩) (.cons (⟨t13, rfl⟩) (.cons (⟨t14, rfl⟩) (.cons (⟨t15, rfl⟩) (.nil))))) (by rfl) fun F => .cons ((fun _ => dr_str rfl (by decide +kernel)) F) (.cons ((fun _ => dr_str rfl (by decide +kernel)) F) (.cons ((fun _ => dr_str rfl (by decide +kernel)) F) (.cons ((fun _ => dr_str rfl (by decide +kernel)) F) (.nil)))))⟩, ⟨C_re, f_re, re_txt X G aC_re aS_re xL_re sa_re ga_re gg_re nb_re a1_re t1_re l1_re c1_re l2_re l3_re v3_re f3_re kC_re eC_re vC_re tC_re hC_re iC_re sC_re mr_re an_re tp_re⟩, ⟨C_Function, f_Function_i, _, fun_mk (st := S_Function___init__) l_Function_i c_Function_i k_Function_i, PySem.W.mg_of X G aC_Function, ⟨mk_Function, in_Function, if_Function, kC_Function⟩⟩, ⟨C_Program, f_Program_i, _, fun_mk (st := S_Program___init__) l_Program_i c_Program_i k_Program_i, PySem.W.mg_of X G aC_Program, ⟨mk_Program, in_Program, if_Program, kC_Program⟩⟩, ⟨C_Thing, f_Thing_i, _, fun_mk (st := S_Thing___init__) l_Thing_i c_Thing_i k_Thing_i, PySem.W.mg_of X G aC_Thing, ⟨mk_Thing, in_Thing, if_Thing, kC_Thing⟩⟩, ⟨C_World, f_World_i, _, fun_mk (st := S_World___init__) l_World_i c_World_i k_World_i, PySem.W.mg_of X G aC_World, ⟨mk_World, in_World, if_World, kC_World⟩⟩, ⟨C_World, f_World_read_i, _, fun_mk (st := S_World_read) l_World_read_i c_World_read_i k_World_read_i, PySem.W.mg_of X G aC_World, ⟨pg_World, hd_World, po_World, sa_World⟩, ⟨mi_World_read_i, mf_World_read_i, k_World_read_i⟩⟩, ⟨C_World, f_World_make_i, _, fun_mk (st := S_World_make) l_World_make_i c_World_make_i k_World_make_i, PySem.W.mg_of X G aC_World, ⟨pg_World, hd_World, po_World, sa_World⟩, ⟨mi_World_make_i, mf_World_make_i, k_World_make_i⟩⟩, ⟨C_World, f_World_write_i, _, fun_mk (st := S_World_write) l_World_write_i c_World_write_i k_World_write_i, PySem.W.mg_of X G aC_World, ⟨pg_World, hd_World, po_World, sa_World⟩, ⟨mi_World_write_i, mf_World_write_i, k_World_write_i⟩⟩, ⟨C_Function, PySem.W.mg_of X G aC_Function, ⟨pg_Function, hd_Function, po_Function, sa_Function⟩, fun f hf => by simp only [List.mem_singleton] at hf; subst hf; exact n_Function_body⟩, ⟨C_Function, PySem.W.mg_of X G aC_Function, ⟨pg_Function, hd_Function, po_Function, sa_Function⟩, fun f hf => by simp only [List.mem_singleton] at hf; subst hf; exact n_Function_name⟩, ⟨C_Function, PySem.W.mg_of X G aC_Function, ⟨pg_Function, hd_Function, po_Function, sa_Function⟩, fun f hf => by simp only [List.mem_singleton] at hf; subst hf; exact n_Function_params⟩, ⟨C_Program, PySem.W.mg_of X G aC_Program, ⟨pg_Program, hd_Program, po_Program, sa_Program⟩, fun f hf => by simp only [List.mem_singleton] at hf; subst hf; exact n_Program_functions⟩, ⟨C_Program, PySem.W.mg_of X G aC_Program, ⟨pg_Program, hd_Program, po_Program, sa_Program⟩, fun f hf => by simp only [List.mem_singleton] at hf; subst hf; exact n_Program_statements⟩, ⟨C_Thing, PySem.W.mg_of X G aC_Thing, ⟨pg_Thing, hd_Thing, po_Thing, sa_Thing⟩, fun f hf => by simp only [List.mem_singleton] at hf; subst hf; exact n_Thing_kind⟩, ⟨C_Thing, PySem.W.mg_of X G aC_Thing, ⟨pg_Thing, hd_Thing, po_Thing, sa_Thing⟩, fun f hf => by simp only [List.mem_singleton] at hf; subst hf; exact n_Thing_name⟩, ⟨C_Thing, PySem.W.mg_of X G aC_Thing, ⟨pg_Thing, hd_Thing, po_Thing, sa_Thing⟩, fun f hf => by simp only [List.mem_singleton] at hf; subst hf; exact n_Thing_value⟩, ⟨C_World, PySem.W.mg_of X G aC_World, ⟨pg_World, hd_World, po_World, sa_World⟩, fun f hf => by simp only [List.mem_singleton] at hf; subst hf; exact n_World_breaches⟩, ⟨C_World, PySem.W.mg_of X G aC_World, ⟨pg_World, hd_World, po_World, sa_World⟩, fun f hf => by simp only [List.mem_singleton] at hf; subst hf; exact n_World_executed⟩, ⟨C_World, PySem.W.mg_of X G aC_World, ⟨pg_World, hd_World, po_World, sa_World⟩, fun f hf => by simp only [List.mem_singleton] at hf; subst hf; exact n_World_things⟩, fun c hc => by
    simp only [List.mem_cons, List.not_mem_nil, or_false] at hc
    rcases hc with rfl
    · exact ⟨C_Function, PySem.W.mg_of X G aC_Function, ⟨pg_Function, hd_Function, po_Function, sa_Function⟩, fun f hf => by simp only [List.mem_singleton] at hf; subst hf; exact n_Function_body⟩, fun c hc => by
    simp only [List.mem_cons, List.not_mem_nil, or_false] at hc
    rcases hc with rfl
    · exact ⟨C_World, PySem.W.mg_of X G aC_World, ⟨pg_World, hd_World, po_World, sa_World⟩, fun f hf => by simp only [List.mem_singleton] at hf; subst hf; exact n_World_breaches⟩, fun c hc => by
    simp only [List.mem_cons, List.not_mem_nil, or_false] at hc
    rcases hc with rfl
    · exact ⟨C_World, PySem.W.mg_of X G aC_World, ⟨pg_World, hd_World, po_World, sa_World⟩, fun f hf => by simp only [List.mem_singleton] at hf; subst hf; exact n_World_executed⟩, fun c hc => by
    simp only [List.mem_cons, List.not_mem_nil, or_false] at hc
    rcases hc with rfl
    · exact ⟨C_Program, PySem.W.mg_of X G aC_Program, ⟨pg_Program, hd_Program, po_Program, sa_Program⟩, fun f hf => by simp only [List.mem_singleton] at hf; subst hf; exact n_Program_functions⟩, fun c hc => by
    simp only [List.mem_cons, List.not_mem_nil, or_false] at hc
    rcases hc with rfl
    · exact ⟨C_Thing, PySem.W.mg_of X G aC_Thing, ⟨pg_Thing, hd_Thing, po_Thing, sa_Thing⟩, fun f hf => by simp only [List.mem_singleton] at hf; subst hf; exact n_Thing_kind⟩, fun c hc => by
    simp only [List.mem_cons, List.not_mem_nil, or_false] at hc
    rcases hc with rfl
    · exact ⟨C_Function, PySem.W.mg_of X G aC_Function, ⟨pg_Function, hd_Function, po_Function, sa_Function⟩, fun f hf => by simp only [List.mem_singleton] at hf; subst hf; exact n_Function_name⟩, fun c hc => by
    simp only [List.mem_cons, List.not_mem_nil, or_false] at hc
    rcases hc with rfl
    · exact ⟨C_Thing, PySem.W.mg_of X G aC_Thing, ⟨pg_Thing, hd_Thing, po_Thing, sa_Thing⟩, fun f hf => by simp only [List.mem_singleton] at hf; subst hf; exact n_Thing_name⟩, fun c hc => by
    simp only [List.mem_cons, List.not_mem_nil, or_false] at hc
    rcases hc with rfl
    · exact ⟨C_Function, PySem.W.mg_of X G aC_Function, ⟨pg_Function, hd_Function, po_Function, sa_Function⟩, fun f hf => by simp only [List.mem_singleton] at hf; subst hf; exact n_Function_params⟩, fun c hc => by
    simp only [List.mem_cons, List.not_mem_nil, or_false] at hc
    rcases hc with rfl
    · exact ⟨C_Program, PySem.W.mg_of X G aC_Program, ⟨pg_Program, hd_Program, po_Program, sa_Program⟩, fun f hf => by simp only [List.mem_singleton] at hf; subst hf; exact n_Program_statements⟩, fun c hc => by
    simp only [List.mem_cons, List.not_mem_nil, or_false] at hc
    rcases hc with rfl
    · exact ⟨C_World, PySem.W.mg_of X G aC_World, ⟨pg_World, hd_World, po_World, sa_World⟩, fun f hf => by simp only [List.mem_singleton] at hf; subst hf; exact n_World_things⟩, fun c hc => by
    simp only [List.mem_cons, List.not_mem_nil, or_false] at hc
    rcases hc with rfl
    · exact ⟨C_Thing, PySem.W.mg_of X G aC_Thing, ⟨pg_Thing, hd_Thing, po_Thing, sa_Thing⟩, fun f hf => by simp only [List.mem_singleton] at hf; subst hf; exact n_Thing_value⟩, ⟨C_Function, PySem.W.mg_of X G aC_Function, ⟨⟨pg_Function, hd_Function, po_Function, sa_Function⟩, ia_Function, ib_Function, ic_Function, id_Function, if_pos (beq_self_eq_true _)⟩⟩, ⟨f__law_cell, _, fun_mk (st := S__law_cell) l__law_cell c__law_cell k__law_cell, PySem.W.mg_of X G a__law_cell⟩, ⟨f__law_row, _, fun_mk (st := S__law_row) l__law_row c__law_row k__law_row, PySem.W.mg_of X G a__law_row⟩, ⟨f__law_draw, _, fun_mk (st := S__law_draw) l__law_draw c__law_draw k__law_draw, PySem.W.mg_of X G a__law_draw⟩, ⟨f__law_right, _, fun_mk (st := S__law_right) l__law_right c__law_right k__law_right, PySem.W.mg_of X G a__law_right⟩, ⟨f__law_rights, _, fun_mk (st := S__law_rights) l__law_rights c__law_rights k__law_rights, PySem.W.mg_of X G a__law_rights⟩, ⟨f__law_pair, _, fun_mk (st := S__law_pair) l__law_pair c__law_pair k__law_pair, PySem.W.mg_of X G a__law_pair⟩, ⟨f__find, _, fun_mk (st := S__find) l__find c__find k__find, PySem.W.mg_of X G a__find⟩, ⟨f_converts, _, fun_mk (st := S_converts) l_converts c_converts k_converts, PySem.W.mg_of X G a_converts⟩, ⟨f_bar, _, fun_mk (st := S_bar) l_bar c_bar k_bar, PySem.W.mg_of X G a_bar⟩, ⟨f__steps, _, fun_mk (st := S__steps) l__steps c__steps k__steps, PySem.W.mg_of X G a__steps⟩, ⟨f__copied, _, fun_mk (st := S__copied) l__copied c__copied k__copied, PySem.W.mg_of X G a__copied⟩, ⟨f_copied, _, fun_mk (st := S_copied) l_copied c_copied k_copied, PySem.W.mg_of X G a_copied⟩, ⟨f__are_calls, _, fun_mk (st := S__are_calls) l__are_calls c__are_calls k__are_calls, PySem.W.mg_of X G a__are_calls⟩, ⟨f_is_name, _, fun_mk (st := S_is_name) l_is_name c_is_name k_is_name, PySem.W.mg_of X G a_is_name⟩, ⟨f_is_right, _, fun_mk (st := S_is_right) l_is_right c_is_right k_is_right, PySem.W.mg_of X G a_is_right⟩, ⟨f_is_value_type, _, fun_mk (st := S_is_value_type) l_is_value_type c_is_value_type k_is_value_type, PySem.W.mg_of X G a_is_value_type⟩, ⟨f_is_type, _, fun_mk (st := S_is_type) l_is_type c_is_type k_is_type, PySem.W.mg_of X G a_is_type⟩, ⟨f_is_number, _, fun_mk (st := S_is_number) l_is_number c_is_number k_is_number, PySem.W.mg_of X G a_is_number⟩, ⟨f_is_depth, _, fun_mk (st := S_is_depth) l_is_depth c_is_depth k_is_depth, PySem.W.mg_of X G a_is_depth⟩, ⟨f_is_place, _, fun_mk (st := S_is_place) l_is_place c_is_place k_is_place, PySem.W.mg_of X G a_is_place⟩, ⟨f_is_source, _, fun_mk (st := S_is_source) l_is_source c_is_source k_is_source, PySem.W.mg_of X G a_is_source⟩, ⟨f_is_statement, _, fun_mk (st := S_is_statement) l_is_statement c_is_statement k_is_statement, PySem.W.mg_of X G a_is_statement⟩, ⟨f__is_block, _, fun_mk (st := S__is_block) l__is_block c__is_block k__is_block, PySem.W.mg_of X G a__is_block⟩, ⟨f__made, _, fun_mk (st := S__made) l__made c__made k__made, PySem.W.mg_of X G a__made⟩, ⟨f_names_of, _, fun_mk (st := S_names_of) l_names_of c_names_of k_names_of, PySem.W.mg_of X G a_names_of⟩, ⟨f__is_parameter, _, fun_mk (st := S__is_parameter) l__is_parameter c__is_parameter k__is_parameter, PySem.W.mg_of X G a__is_parameter⟩, ⟨f__is_function, _, fun_mk (st := S__is_function) l__is_function c__is_function k__is_function, PySem.W.mg_of X G a__is_function⟩, ⟨f__is_program, _, fun_mk (st := S__is_program) l__is_program c__is_program k__is_program, PySem.W.mg_of X G a__is_program⟩, ⟨f__empty, _, fun_mk (st := S__empty) l__empty c__empty k__empty, PySem.W.mg_of X G a__empty⟩, ⟨f__converter, _, fun_mk (st := S__converter) l__converter c__converter k__converter, PySem.W.mg_of X G a__converter⟩, ⟨f_breaking, _, fun_mk (st := S_breaking) l_breaking c_breaking k_breaking, PySem.W.mg_of X G a_breaking⟩, ⟨f_function_of, _, fun_mk (st := S_function_of) l_function_of c_function_of k_function_of, PySem.W.mg_of X G a_function_of⟩, ⟨f_place_fault, _, fun_mk (st := S_place_fault) l_place_fault c_place_fault k_place_fault, PySem.W.mg_of X G a_place_fault⟩, ⟨f_seen_type, _, fun_mk (st := S_seen_type) l_seen_type c_seen_type k_seen_type, PySem.W.mg_of X G a_seen_type⟩, ⟨f__conversion_fault, _, fun_mk (st := S__conversion_fault) l__conversion_fault c__conversion_fault k__conversion_fault, PySem.W.mg_of X G a__conversion_fault⟩, ⟨f_source_fault, _, fun_mk (st := S_source_fault) l_source_fault c_source_fault k_source_fault, PySem.W.mg_of X G a_source_fault⟩, ⟨f__put_fault, _, fun_mk (st := S__put_fault) l__put_fault c__put_fault k__put_fault, PySem.W.mg_of X G a__put_fault⟩, ⟨f_statement_fault, _, fun_mk (st := S_statement_fault) l_statement_fault c_statement_fault k_statement_fault, PySem.W.mg_of X G a_statement_fault⟩, ⟨f_block_faults, _, fun_mk (st := S_block_faults) l_block_faults c_block_faults k_block_faults, PySem.W.mg_of X G a_block_faults⟩, ⟨f_faults, _, fun_mk (st := S_faults) l_faults c_faults k_faults, PySem.W.mg_of X G a_faults⟩, ⟨f_is_let_by, _, fun_mk (st := S_is_let_by) l_is_let_by c_is_let_by k_is_let_by, PySem.W.mg_of X G a_is_let_by⟩, ⟨f__thing_at, _, fun_mk (st := S__thing_at) l__thing_at c__thing_at k__thing_at, PySem.W.mg_of X G a__thing_at⟩, ⟨f__looked_up, _, fun_mk (st := S__looked_up) l__looked_up c__looked_up k__looked_up, PySem.W.mg_of X G a__looked_up⟩, ⟨f__all_looked_up, _, fun_mk (st := S__all_looked_up) l__all_looked_up c__all_looked_up k__all_looked_up, PySem.W.mg_of X G a__all_looked_up⟩, ⟨f__put, _, fun_mk (st := S__put) l__put c__put k__put, PySem.W.mg_of X G a__put⟩, ⟨f_act_all, _, fun_mk (st := S_act_all) l_act_all c_act_all k_act_all, PySem.W.mg_of X G a_act_all⟩, ⟨f__call, _, fun_mk (st := S__call) l__call c__call k__call, PySem.W.mg_of X G a__call⟩, ⟨f_act, _, fun_mk (st := S_act) l_act c_act k_act, PySem.W.mg_of X G a_act⟩, ⟨f_shown_things, _, fun_mk (st := S_shown_things) l_shown_things c_shown_things k_shown_things, PySem.W.mg_of X G a_shown_things⟩, ⟨f_run, _, fun_mk (st := S_run) l_run c_run k_run, PySem.W.mg_of X G a_run⟩, ⟨f_is_breaking, _, fun_mk (st := S_is_breaking) l_is_breaking c_is_breaking k_is_breaking, PySem.W.mg_of X G a_is_breaking⟩, ⟨f_is_bar, _, fun_mk (st := S_is_bar) l_is_bar c_is_bar k_is_bar, PySem.W.mg_of X G a_is_bar⟩⟩
  refine ⟨PySem.W.fnOf "law" "law" (defArgs S_law) (defBody S_law) (defScope S_law) .none kV_law dc_law pm_law an_law cd_law ct_law, fun s v => .of_eq rfl, fun base _ _ => FnOk.imp (fnk_law (E base) (fun_mk (st := S_law) l_law c_law k_law)) fun vs H Q Ex h => law_end h hf⟩

end
end K81
end

section
open PySem PySem.W PyProof.Rows
set_option maxHeartbeats 0 in
theorem PySem.Challenge.cw_rightskept_k81_whole_exact_rule_holds : PySem.Challenge.rw_rightskept_k81_whole_exact_rule.Holds := by
  w_on; o_law; k_head; (case hw => w_witness2)
  k_fill
  refine L2.walk_ofB (l := PySem.Challenge.rw_rightskept_k81_whole_exact_rule) (n := 63) (k := 38) (x := "_law_script") (CX := fun w => L2.CX PySem.Challenge.pw_rightskept_k81_whole_exact_rule w) (sp := fun w => Rx.spLaw _) rfl (by decide) rfl ⟨rfl, by decide, by decide⟩ (fun w h Y => PySem.W.kIn_of Y) ?F (fun _ _ a ns hl hb _ hS => ⟨a, ns, rfl, hS, hl, hb, fun _ => rfl⟩) (fun _ _ _ _ _ ⟨_, _, _, _, _, _, _, _, _, _, _, _, h⟩ => h)
  case F =>
    intro w mg fa h KX G hmg
    refine' K81.all_mk (l := PySem.Challenge.rw_rightskept_k81_whole_exact_rule) KX G hmg ?z_abs ?z_all ?z_bool ?z_enumerate ?z_int ?z_isinstance ?z_len ?z_list ?z_range ?z_str ?z_tuple ?z_zip ?g_LETTERS ?g_LONGEST_NAME ?g_MOST_BODY ?g_MOST_DEPTH ?g_MOST_EXECUTED ?g_MOST_FUNCTIONS ?g_MOST_NUMBER ?g_MOST_PARAMETERS ?g_MOST_RIGHTS ?g_MOST_STARS ?g_MOST_STATEMENTS ?lk20 ?g_RIGHTS ?aC_re ?aS_re ?xL_re ?sa_re ?ga_re ?gg_re ?nb_re ?a1_re ?t1_re ?l1_re ?c1_re ?l2_re ?l3_re ?v3_re ?f3_re ?kC_re ?eC_re ?vC_re ?tC_re ?hC_re ?iC_re ?sC_re ?mr_re ?an_re ?tp_re ?aC_Function ?pg_Function ?hd_Function ?po_Function ?sa_Function ?n_Function_body ?n_Function_name ?n_Function_params ?mk_Function ?in_Function ?if_Function ?kC_Function ?l_Function_i ?c_Function_i ?k_Function_i ?ia_Function ?ib_Function ?ic_Function ?id_Function ?aC_Program ?pg_Program ?hd_Program ?po_Program ?sa_Program ?n_Program_functions ?n_Program_statements ?mk_Program ?in_Program ?if_Program ?kC_Program ?l_Program_i ?c_Program_i ?k_Program_i ?aC_Thing ?pg_Thing ?hd_Thing ?po_Thing ?sa_Thing ?n_Thing_kind ?n_Thing_name ?n_Thing_value ?mk_Thing ?in_Thing ?if_Thing ?kC_Thing ?l_Thing_i ?c_Thing_i ?k_Thing_i ?aC_World ?pg_World ?hd_World ?po_World ?sa_World ?n_World_breaches ?n_World_executed ?n_World_things ?mk_World ?in_World ?if_World ?kC_World ?l_World_i ?c_World_i ?k_World_i ?mi_World_read_i ?mf_World_read_i ?l_World_read_i ?c_World_read_i ?k_World_read_i ?mi_World_make_i ?mf_World_make_i ?l_World_make_i ?c_World_make_i ?k_World_make_i ?mi_World_write_i ?mf_World_write_i ?l_World_write_i ?c_World_write_i ?k_World_write_i ?a__law_cell ?l__law_cell ?c__law_cell ?k__law_cell ?a__law_row ?l__law_row ?c__law_row ?k__law_row ?a__law_draw ?l__law_draw ?c__law_draw ?k__law_draw ?a__law_right ?l__law_right ?c__law_right ?k__law_right ?a__law_rights ?l__law_rights ?c__law_rights ?k__law_rights ?a__law_pair ?l__law_pair ?c__law_pair ?k__law_pair ?a__find ?l__find ?c__find ?k__find ?a_converts ?l_converts ?c_converts ?k_converts ?a_bar ?l_bar ?c_bar ?k_bar ?a__steps ?l__steps ?c__steps ?k__steps ?a__copied ?l__copied ?c__copied ?k__copied ?a_copied ?l_copied ?c_copied ?k_copied ?a__are_calls ?l__are_calls ?c__are_calls ?k__are_calls ?a_is_name ?l_is_name ?c_is_name ?k_is_name ?a_is_right ?l_is_right ?c_is_right ?k_is_right ?a_is_value_type ?l_is_value_type ?c_is_value_type ?k_is_value_type ?a_is_type ?l_is_type ?c_is_type ?k_is_type ?a_is_number ?l_is_number ?c_is_number ?k_is_number ?a_is_depth ?l_is_depth ?c_is_depth ?k_is_depth ?a_is_place ?l_is_place ?c_is_place ?k_is_place ?a_is_source ?l_is_source ?c_is_source ?k_is_source ?a_is_statement ?l_is_statement ?c_is_statement ?k_is_statement ?a__is_block ?l__is_block ?c__is_block ?k__is_block ?a__made ?l__made ?c__made ?k__made ?a_names_of ?l_names_of ?c_names_of ?k_names_of ?a__is_parameter ?l__is_parameter ?c__is_parameter ?k__is_parameter ?a__is_function ?l__is_function ?c__is_function ?k__is_function ?a__is_program ?l__is_program ?c__is_program ?k__is_program ?a__empty ?l__empty ?c__empty ?k__empty ?a__converter ?l__converter ?c__converter ?k__converter ?a_breaking ?l_breaking ?c_breaking ?k_breaking ?a_function_of ?l_function_of ?c_function_of ?k_function_of ?a_place_fault ?l_place_fault ?c_place_fault ?k_place_fault ?a_seen_type ?l_seen_type ?c_seen_type ?k_seen_type ?a__conversion_fault ?l__conversion_fault ?c__conversion_fault ?k__conversion_fault ?a_source_fault ?l_source_fault ?c_source_fault ?k_source_fault ?a__put_fault ?l__put_fault ?c__put_fault ?k__put_fault ?a_statement_fault ?l_statement_fault ?c_statement_fault ?k_statement_fault ?a_block_faults ?l_block_faults ?c_block_faults ?k_block_faults ?a_faults ?l_faults ?c_faults ?k_faults ?a_is_let_by ?l_is_let_by ?c_is_let_by ?k_is_let_by ?a__thing_at ?l__thing_at ?c__thing_at ?k__thing_at ?a__looked_up ?l__looked_up ?c__looked_up ?k__looked_up ?a__all_looked_up ?l__all_looked_up ?c__all_looked_up ?k__all_looked_up ?a__put ?l__put ?c__put ?k__put ?a_act_all ?l_act_all ?c_act_all ?k_act_all ?a__call ?l__call ?c__call ?k__call ?a_act ?l_act ?c_act ?k_act ?a_shown_things ?l_shown_things ?c_shown_things ?k_shown_things ?a_run ?l_run ?c_run ?k_run ?a_is_breaking ?l_is_breaking ?c_is_breaking ?k_is_breaking ?a_is_bar ?l_is_bar ?c_is_bar ?k_is_bar ?a_law ?l_law ?c_law ?k_law K81.law_ok
    (case z_abs => k_is); (case z_all => k_is); (case z_bool => k_is); (case z_enumerate => k_is); (case z_int => k_is); (case z_isinstance => k_is); (case z_len => k_is); (case z_list => k_is); (case z_range => k_is); (case z_str => k_is); (case z_tuple => k_is); (case z_zip => k_is); (case g_LETTERS => k_is); (case g_LONGEST_NAME => k_is); (case g_MOST_BODY => k_is); (case g_MOST_DEPTH => k_is); (case g_MOST_EXECUTED => k_is); (case g_MOST_FUNCTIONS => k_is); (case g_MOST_NUMBER => k_is); (case g_MOST_PARAMETERS => k_is); (case g_MOST_RIGHTS => k_is); (case g_MOST_STARS => k_is); (case g_MOST_STATEMENTS => k_is); (case g_RIGHTS => k_is); (case lk20 => k_is); (case aC_re => k_is); (case aS_re => k_is); (case xL_re => k_is); (case sa_re => k_is); (case ga_re => k_is); (case gg_re => k_is); (case nb_re => k_is); (case a1_re => k_is); (case t1_re => k_is); (case l1_re => k_is); (case c1_re => k_is); (case l2_re => k_is); (case l3_re => k_is); (case v3_re => rfl); (case f3_re => rfl); (case kC_re => k_is); (case eC_re => k_is); (case vC_re => k_is); (case tC_re => k_is); (case hC_re => k_is); (case iC_re => k_is); (case sC_re => k_is); (case mr_re => k_is); (case an_re => k_is); (case tp_re => rfl); (case aC_Function => k_is); (case pg_Function => k_is); (case hd_Function => k_is); (case po_Function => k_is); (case sa_Function => k_is); (case n_Function_body => k_is); (case n_Function_name => k_is); (case n_Function_params => k_is); (case mk_Function => k_is); (case in_Function => k_is); (case if_Function => k_is); (case kC_Function => k_is); (case l_Function_i => k_is); (case c_Function_i => k_is); (case k_Function_i => k_is); (case ia_Function => k_is); (case ib_Function => k_is); (case ic_Function => k_is); (case id_Function => k_is); (case aC_Program => k_is); (case pg_Program => k_is); (case hd_Program => k_is); (case po_Program => k_is); (case sa_Program => k_is); (case n_Program_functions => k_is); (case n_Program_statements => k_is); (case mk_Program => k_is); (case in_Program => k_is); (case if_Program => k_is); (case kC_Program => k_is); (case l_Program_i => k_is); (case c_Program_i => k_is); (case k_Program_i => k_is); (case aC_Thing => k_is); (case pg_Thing => k_is); (case hd_Thing => k_is); (case po_Thing => k_is); (case sa_Thing => k_is); (case n_Thing_kind => k_is); (case n_Thing_name => k_is); (case n_Thing_value => k_is); (case mk_Thing => k_is); (case in_Thing => k_is); (case if_Thing => k_is); (case kC_Thing => k_is); (case l_Thing_i => k_is); (case c_Thing_i => k_is); (case k_Thing_i => k_is); (case aC_World => k_is); (case pg_World => k_is); (case hd_World => k_is); (case po_World => k_is); (case sa_World => k_is); (case n_World_breaches => k_is); (case n_World_executed => k_is); (case n_World_things => k_is); (case mk_World => k_is); (case in_World => k_is); (case if_World => k_is); (case kC_World => k_is); (case l_World_i => k_is); (case c_World_i => k_is); (case k_World_i => k_is); (case mi_World_read_i => k_is); (case mf_World_read_i => k_is); (case l_World_read_i => k_is); (case c_World_read_i => k_is); (case k_World_read_i => k_is); (case mi_World_make_i => k_is); (case mf_World_make_i => k_is); (case l_World_make_i => k_is); (case c_World_make_i => k_is); (case k_World_make_i => k_is); (case mi_World_write_i => k_is); (case mf_World_write_i => k_is); (case l_World_write_i => k_is); (case c_World_write_i => k_is); (case k_World_write_i => k_is); (case a__law_cell => k_is); (case l__law_cell => k_is); (case c__law_cell => k_is); (case k__law_cell => k_is); (case a__law_row => k_is); (case l__law_row => k_is); (case c__law_row => k_is); (case k__law_row => k_is); (case a__law_draw => k_is); (case l__law_draw => k_is); (case c__law_draw => k_is); (case k__law_draw => k_is); (case a__law_right => k_is); (case l__law_right => k_is); (case c__law_right => k_is); (case k__law_right => k_is); (case a__law_rights => k_is); (case l__law_rights => k_is); (case c__law_rights => k_is); (case k__law_rights => k_is); (case a__law_pair => k_is); (case l__law_pair => k_is); (case c__law_pair => k_is); (case k__law_pair => k_is); (case a__find => k_is); (case l__find => k_is); (case c__find => k_is); (case k__find => k_is); (case a_converts => k_is); (case l_converts => k_is); (case c_converts => k_is); (case k_converts => k_is); (case a_bar => k_is); (case l_bar => k_is); (case c_bar => k_is); (case k_bar => k_is); (case a__steps => k_is); (case l__steps => k_is); (case c__steps => k_is); (case k__steps => k_is); (case a__copied => k_is); (case l__copied => k_is); (case c__copied => k_is); (case k__copied => k_is); (case a_copied => k_is); (case l_copied => k_is); (case c_copied => k_is); (case k_copied => k_is); (case a__are_calls => k_is); (case l__are_calls => k_is); (case c__are_calls => k_is); (case k__are_calls => k_is); (case a_is_name => k_is); (case l_is_name => k_is); (case c_is_name => k_is); (case k_is_name => k_is); (case a_is_right => k_is); (case l_is_right => k_is); (case c_is_right => k_is); (case k_is_right => k_is); (case a_is_value_type => k_is); (case l_is_value_type => k_is); (case c_is_value_type => k_is); (case k_is_value_type => k_is); (case a_is_type => k_is); (case l_is_type => k_is); (case c_is_type => k_is); (case k_is_type => k_is); (case a_is_number => k_is); (case l_is_number => k_is); (case c_is_number => k_is); (case k_is_number => k_is); (case a_is_depth => k_is); (case l_is_depth => k_is); (case c_is_depth => k_is); (case k_is_depth => k_is); (case a_is_place => k_is); (case l_is_place => k_is); (case c_is_place => k_is); (case k_is_place => k_is); (case a_is_source => k_is); (case l_is_source => k_is); (case c_is_source => k_is); (case k_is_source => k_is); (case a_is_statement => k_is); (case l_is_statement => k_is); (case c_is_statement => k_is); (case k_is_statement => k_is); (case a__is_block => k_is); (case l__is_block => k_is); (case c__is_block => k_is); (case k__is_block => k_is); (case a__made => k_is); (case l__made => k_is); (case c__made => k_is); (case k__made => k_is); (case a_names_of => k_is); (case l_names_of => k_is); (case c_names_of => k_is); (case k_names_of => k_is); (case a__is_parameter => k_is); (case l__is_parameter => k_is); (case c__is_parameter => k_is); (case k__is_parameter => k_is); (case a__is_function => k_is); (case l__is_function => k_is); (case c__is_function => k_is); (case k__is_function => k_is); (case a__is_program => k_is); (case l__is_program => k_is); (case c__is_program => k_is); (case k__is_program => k_is); (case a__empty => k_is); (case l__empty => k_is); (case c__empty => k_is); (case k__empty => k_is); (case a__converter => k_is); (case l__converter => k_is); (case c__converter => k_is); (case k__converter => k_is); (case a_breaking => k_is); (case l_breaking => k_is); (case c_breaking => k_is); (case k_breaking => k_is); (case a_function_of => k_is); (case l_function_of => k_is); (case c_function_of => k_is); (case k_function_of => k_is); (case a_place_fault => k_is); (case l_place_fault => k_is); (case c_place_fault => k_is); (case k_place_fault => k_is); (case a_seen_type => k_is); (case l_seen_type => k_is); (case c_seen_type => k_is); (case k_seen_type => k_is); (case a__conversion_fault => k_is); (case l__conversion_fault => k_is); (case c__conversion_fault => k_is); (case k__conversion_fault => k_is); (case a_source_fault => k_is); (case l_source_fault => k_is); (case c_source_fault => k_is); (case k_source_fault => k_is); (case a__put_fault => k_is); (case l__put_fault => k_is); (case c__put_fault => k_is); (case k__put_fault => k_is); (case a_statement_fault => k_is); (case l_statement_fault => k_is); (case c_statement_fault => k_is); (case k_statement_fault => k_is); (case a_block_faults => k_is); (case l_block_faults => k_is); (case c_block_faults => k_is); (case k_block_faults => k_is); (case a_faults => k_is); (case l_faults => k_is); (case c_faults => k_is); (case k_faults => k_is); (case a_is_let_by => k_is); (case l_is_let_by => k_is); (case c_is_let_by => k_is); (case k_is_let_by => k_is); (case a__thing_at => k_is); (case l__thing_at => k_is); (case c__thing_at => k_is); (case k__thing_at => k_is); (case a__looked_up => k_is); (case l__looked_up => k_is); (case c__looked_up => k_is); (case k__looked_up => k_is); (case a__all_looked_up => k_is); (case l__all_looked_up => k_is); (case c__all_looked_up => k_is); (case k__all_looked_up => k_is); (case a__put => k_is); (case l__put => k_is); (case c__put => k_is); (case k__put => k_is); (case a_act_all => k_is); (case l_act_all => k_is); (case c_act_all => k_is); (case k_act_all => k_is); (case a__call => k_is); (case l__call => k_is); (case c__call => k_is); (case k__call => k_is); (case a_act => k_is); (case l_act => k_is); (case c_act => k_is); (case k_act => k_is); (case a_shown_things => k_is); (case l_shown_things => k_is); (case c_shown_things => k_is); (case k_shown_things => k_is); (case a_run => k_is); (case l_run => k_is); (case c_run => k_is); (case k_run => k_is); (case a_is_breaking => k_is); (case l_is_breaking => k_is); (case c_is_breaking => k_is); (case k_is_breaking => k_is); (case a_is_bar => k_is); (case l_is_bar => k_is); (case c_is_bar => k_is); (case k_is_bar => k_is); (case a_law => k_is); (case l_law => k_is); (case c_law => k_is); (case k_law => k_is)
end
