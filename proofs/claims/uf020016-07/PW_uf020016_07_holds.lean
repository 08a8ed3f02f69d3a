import PyProof.Rows.All
import PyProof.StrBlock
import PyProof.StrBlockI
import PyProof.P3Statements
import PyProof.DictRoadsH
import PyProof.DictKinds
import PyProof.InstLoad
import PyProof.ObjNew
import PyProof.Cells
import PyProof.WalksMore
import PyProof.Calls
import PyProof.DefCall
import PyProof.RaisesMany
import PyProof.ListMulRoad
import PyProof.Rows.ListMul
import PyProof.TupleKey
import PyProof.IsiSeqPairs
import PyProof.IsiNone
import PyProof.TupleOfSeq
import PyProof.ListRange
import PyProof.WalkInts
import PyProof.CallRoads
import PyProof.StrWalks
import PyProof.RulesDelMore
import PyProof.CompFree
import PyProof.CompUse
import PyProof.LetGo
import PyProof.AssignAttr
import PyProof.InstStoreFacts
import PyProof.WalksPairs
import PyProof.ZipIter
import PyProof.EnumFor
import PyProof.ListIndex
import Open.FastRun
import Lean
import Wide.All
import OpenK.AllK
import Wide.FinOn
import Lean
import PySem.Challenge.RW_uf020016_07
set_option Elab.async false
set_option autoImplicit false
set_option genSizeOfSpec false
set_option genSizeOf false
set_option genInjectivity false
set_option tactic.hygienic false
set_option bootstrap.genMatcherCode false
set_option linter.all false
set_option linter.unusedSimpArgs false
-- part MLang
namespace Mine
open PySem
noncomputable section

inductive Val where
  | none
  | bool (b : Bool)
  | int (i : Int)
  | str (s : Str)
  | tup (vs : List Val)
  | loc (l : Nat)
  | script (ns : List Int)
  | rng (n : Int)
  | exc (c : Nat)

/- whether two lists of values are the same -/
noncomputable def sames (a b : List Val) : Bool := @decide (a = b) (Classical.propDecidable _)
theorem sames_eq (a b : List Val) (h : sames a b = true) : a = b := @of_decide_eq_true _ (Classical.propDecidable _) h
theorem sames_refl (a : List Val) : sames a a = true := @decide_eq_true _ (Classical.propDecidable _) rfl

noncomputable abbrev Key := Int × Int

inductive HObj where
  | list (xs : List Val)
  | dict (es : List (Key × Val))
  | inst (c : Nat) (fs : List (Nat × Val))
  | hid

noncomputable abbrev Hp := List HObj

inductive Res (α : Type) where
  | ok (a : α) (H : Hp)
  | exc (c : Nat) (H : Hp)
  | bad

noncomputable def M (α : Type) := Hp → Res α

namespace M
noncomputable def ret {α : Type} (a : α) : M α := fun H => .ok a H
noncomputable def bnd {α β : Type} (m : M α) (f : α → M β) : M β := fun H =>
  match m H with
  | .ok a H' => f a H'
  | .exc c H' => .exc c H'
  | .bad => .bad
noncomputable def bad {α : Type} : M α := fun _ => .bad
noncomputable def raise {α : Type} (c : Nat) : M α := fun H => .exc c H
noncomputable def ofOpt {α : Type} : Option α → M α
  | some a => ret a
  | none => bad
/- a look at the heap -/
noncomputable def look {α : Type} (f : Hp → Option α) : M α := fun H =>
  match f H with
  | some a => .ok a H
  | none => .bad
/- an exception is not awaited here -/
noncomputable def quiet {α : Type} (m : M α) : M α := fun H =>
  match m H with
  | .exc _ _ => .bad
  | r => r
/- a new object -/
noncomputable def alloc (o : HObj) : M Val := fun H => .ok (.loc H.length) (H ++ [o])
/- an object is exchanged -/
noncomputable def put (l : Nat) (o : HObj) : M Unit := fun H => .ok () (H.set l o)
end M

theorem bnd_ok {α β : Type} {m : M α} {f : α → M β} {H H' : Hp} {a : α} (h : m H = .ok a H') : (m.bnd f) H = f a H' := by
  unfold M.bnd; rw [h]
theorem bnd_exc {α β : Type} {m : M α} {f : α → M β} {H H' : Hp} {c : Nat} (h : m H = .exc c H') : (m.bnd f) H = .exc c H' := by
  unfold M.bnd; rw [h]
theorem bnd_bad {α β : Type} {m : M α} {f : α → M β} {H : Hp} (h : m H = .bad) : (m.bnd f) H = .bad := by
  unfold M.bnd; rw [h]

inductive BOp where
  | add | sub | mul | fdiv | mod
inductive COp where
  | eq | ne | lt | le | gt | is | isNot | isin | notin
inductive Ty where
  | int | bool | str | tuple | list
  | cls (c : Nat)
/- built-in functions -/
inductive BF where
  | len | range | list | max2 | sortedSet
/- built-in methods -/
inductive BM where
  | append | pop | get

mutual
inductive ME where
  | none
  | bool (b : Bool)
  | int (i : Int)
  | glob (k : Nat)
  | var (i : Nat)
  | bin (op : BOp) (a b : ME)
  | neg (a : ME)
  | not (a : ME)
  | and (a b : ME)
  | or (a b : ME)
  | cmp (op : COp) (a b : ME)
  | cmp2 (op1 op2 : COp) (a b c : ME)
  | sub (a i : ME)
  | tup (es : MEs)
  | list (es : MEs)
  | dict
  | attr (a : ME) (n : Nat)
  | call (f : Nat) (es : MEs)
  | new (c : Nat) (es : MEs)
  | umeth (a : ME) (m : Nat) (es : MEs)
  | bf (f : BF) (es : MEs)
  | bm (a : ME) (m : BM) (es : MEs)
  | isinst (a : ME) (t : Ty)
  | comp (elt : ME) (it : ME) (cond : MEo)
inductive MEo where
  | none
  | some (e : ME)
inductive MEs where
  | nil
  | cons (e : ME) (es : MEs)
end

mutual
inductive MS where
  | expr (e : ME)
  | assign (i : Nat) (e : ME)
  | setattr (o : ME) (n : Nat) (e : ME)
  | setitem (o i : ME) (e : ME)
  | ret (e : MEo)
  | ite (c : ME) (t f : MSs)
  | loop (c : ME) (body : MSs)
  | each (i : Nat) (it : ME) (body : MSs)
  | raise (c : Nat) (msg : Str)
inductive MSs where
  | nil
  | cons (s : MS) (ss : MSs)
end

structure MFun where
  arity : Nat
  nvars : Nat
  body : MSs

/- the static tables -/
structure Tab where
  funs : List MFun
  /-- of each class: its methods, by the name's number; number 0 is __init__ -/
  meths : List (List (Nat × Nat))
  /-- of each class: the classes that it stands under (itself too) -/
  subs : List (List Nat)
  globs : List Val

noncomputable def Tab.meth (T : Tab) (c m : Nat) : Option Nat := (T.meths[c]?).bind fun l => l.lookup m
noncomputable def Tab.sub (T : Tab) (c d : Nat) : Bool := ((T.subs[c]?).getD []).contains d

noncomputable def lid : Nat := 16777216

/-! ## plain values -/
noncomputable def dats (f : Val → Option PyData) : List Val → Option (List PyData)
  | [] => some []
  | x :: xs =>
    match f x, dats f xs with
    | some d, some ds => some (d :: ds)
    | _, _ => none
/- a value as data, all the lists that it leads to written out -/
noncomputable def dataOf (H : Hp) : Nat → Val → Option PyData
  | 0, v =>
    match v with
    | .none => some .none
    | .bool b => some (.bool b)
    | .int i => some (.int i)
    | .str s => if PyData.strOk s = true then some (.str s) else none
    | _ => none
  | n + 1, v =>
    match v with
    | .none => some .none
    | .bool b => some (.bool b)
    | .int i => some (.int i)
    | .str s => if PyData.strOk s = true then some (.str s) else none
    | .tup vs => (dats (dataOf H n) vs).map .tuple
    | .loc l =>
      match H[l]? with
      | some (.list xs) => (dats (dataOf H n) xs).map .list
      | _ => none
    | _ => none
/- how deep two things are compared -/
noncomputable def deep : Nat := 6
noncomputable def pyEq (H : Hp) (a b : Val) : Option Bool :=
  match dataOf H deep a, dataOf H deep b with
  | some x, some y => some (PyData.eqv x y)
  | _, _ => none

noncomputable def lts (e f : Val → Val → Option Bool) : List Val → List Val → Option Bool
  | [], [] => some false
  | [], _ :: _ => some true
  | _ :: _, [] => some false
  | x :: xs, y :: ys =>
    match e x y with
    | some true => lts e f xs ys
    | some false => f x y
    | none => none
/- of ints, or of tuples of the same make -/
noncomputable def pyLt : Nat → Val → Val → Option Bool
  | 0, _, _ => none
  | n + 1, a, b =>
    match a, b with
    | .int x, .int y => some (decide (x < y))
    | .tup xs, .tup ys => lts (pyEq []) (pyLt n) xs ys
    | _, _ => none

noncomputable def keyOf : Val → Option Key
  | .tup [.int a, .int b] => some (a, b)
  | _ => none
noncomputable def valOf (k : Key) : Val := .tup [.int k.1, .int k.2]

noncomputable def dget (es : List (Key × Val)) (k : Key) : Option Val := es.lookup k
noncomputable def dput : List (Key × Val) → Key → Val → List (Key × Val)
  | [], k, v => [(k, v)]
  | (k', v') :: es, k, v => if k' = k then (k', v) :: es else (k', v') :: dput es k v
noncomputable def inList (H : Hp) (x : Val) (ys : List Val) : Option Bool :=
  match dataOf H deep x, dats (dataOf H deep) ys with
  | some d, some ds => some (ds.any fun y => PyData.eqv y d)
  | _, _ => none

noncomputable def small (a : Int) : Bool := decide (-(2 ^ 64) < a) && decide (a < 2 ^ 64)

noncomputable def binV (op : BOp) (a b : Val) : M Val :=
  match op, a, b with
  | .add, .int x, .int y => .ret (.int (x + y))
  | .sub, .int x, .int y => .ret (.int (x - y))
  | .mul, .int x, .int y => if (small x || small y) = true then .ret (.int (x * y)) else .bad
  | .fdiv, .int x, .int y => if y = 0 ∨ 1073741824 ≤ y.natAbs then .bad else .ret (.int (Int.fdiv x y))
  | .mod, .int x, .int y => if y = 0 then .bad else .ret (.int (Int.fmod x y))
  | .add, .str x, .str y => if x.length + y.length ≤ lid then .ret (.str (x ++ y)) else .bad
  | .add, .loc x, .loc y => fun H =>
    match H[x]?, H[y]? with
    | some (.list xs), some (.list ys) => if xs.length + ys.length ≤ lid then M.alloc (.list (xs ++ ys)) H else .bad
    | _, _ => .bad
  | .mul, .loc x, .int n => fun H =>
    match H[x]? with
    | some (.list [v]) => if 0 ≤ n ∧ n ≤ 1000 then M.alloc (.list (List.replicate n.toNat v)) H else .bad
    | _ => .bad
  | _, _, _ => .bad

noncomputable def flip (_neg : Bool) : Option Bool → Option Bool
  | some b => some (!b)
  | none => none

noncomputable def isV (a b : Val) : Option Bool :=
  match b with
  | .none => some (match a with | .none => true | _ => false)
  | .bool y => (match a with | .bool x => some (x == y) | _ => none)
  | _ => none

noncomputable def inV (a b : Val) (H : Hp) : Option Bool :=
  match b with
  | .loc l =>
    match H[l]? with
    | some (.list ys) => inList H a ys
    | some (.dict es) => match keyOf a with
      | some k => some (dget es k).isSome
      | none => none
    | _ => none
  | .str y => match a with
    | .str x => some (Txt.contains y x)
    | _ => none
  | _ => none

noncomputable def cmpV (op : COp) (a b : Val) (H : Hp) : Option Bool :=
  match op with
  | .eq => pyEq H a b
  | .ne => flip true (pyEq H a b)
  | .lt => pyLt deep a b
  | .gt => (match a, b with | .int x, .int y => some (decide (x > y)) | _, _ => none)
  | .le => (match a, b with | .int x, .int y => some (decide (x ≤ y)) | _, _ => none)
  | .is => isV a b
  | .isNot => flip true (isV a b)
  | .isin => inV a b H
  | .notin => flip true (inV a b H)

/-! ## items, parts -/
noncomputable def iterOf (v : Val) (H : Hp) : Option (List Val × Option Nat) :=
  match v with
  | .loc l =>
    match H[l]? with
    | some (.list xs) => some (xs, some l)
    | _ => none
  | .tup xs => some (xs, none)
  | .script ns => some (ns.map .int, none)
  | .rng n => some ((List.range n.toNat).map (fun (k : Nat) => .int (k : Int)), none)
  | .str s => some (s.cps.toList.map (fun c => .str ⟨#[c]⟩), none)
  | _ => none
noncomputable def chk (src : Option Nat) (xs : List Val) (H : Hp) : Bool :=
  match src with
  | none => true
  | some l =>
    match H[l]? with
    | some (.list ys) => sames ys xs
    | _ => false
/- what a list, tuple or the script holds -/
noncomputable def itemsOf (v : Val) (H : Hp) : Option (List Val) :=
  match v with
  | .loc l =>
    match H[l]? with
    | some (.list xs) => some xs
    | _ => none
  | .tup xs => some xs
  | .script ns => some (ns.map .int)
  | _ => none
noncomputable def placeOf (i : Int) (n : Nat) : Option Nat :=
  if 0 ≤ i then (if i < n then some i.toNat else none) else (if -(n : Int) ≤ i then some (i + n).toNat else none)
noncomputable def subV (a i : Val) : M Val := .look fun H =>
  match a, i with
  | .loc l, i =>
    match H[l]?, i with
    | some (.list xs), .int k => (placeOf k xs.length).bind fun p => xs[p]?
    | some (.dict es), i => (keyOf i).bind (dget es)
    | _, _ => none
  | .tup xs, .int k => if 0 ≤ k then xs[k.toNat]? else none
  | .script ns, .int k => (placeOf k ns.length).bind fun p => (ns[p]?).map .int
  | .str s, .int k => (placeOf k s.length).bind fun p => (s.cps[p]?).map fun c => .str ⟨#[c]⟩
  | _, _ => none
/- from a place on -/
/- an order of some values -/
structure Order (xs : List Val) (lt : Val → Val → Bool) : Prop where
  is : ∀ x ∈ xs, ∀ y ∈ xs, pyLt deep x y = some (lt x y)
  asym : ∀ x ∈ xs, ∀ y ∈ xs, lt x y = true → lt y x = false
  tr : ∀ x ∈ xs, ∀ y ∈ xs, ∀ z ∈ xs, lt y x = false → lt z y = false → lt z x = false
  anti : ∀ x ∈ xs, ∀ y ∈ xs, lt x y = false → lt y x = false → x = y
/- few values of one make, in an order -/
open Classical in
noncomputable def bfV (f : BF) (args : List Val) : M Val :=
  match f, args with
  | .len, [v] => .look fun H =>
    match v with
    | .str s => some (.int s.length)
    | v => (itemsOf v H).map fun xs => .int xs.length
  | .range, [.int n] => if -1073741824 ≤ n ∧ n ≤ 1073741824 then .ret (.rng n) else .bad
  | .list, [v] => fun H =>
    match v with
    | .rng n => if n ≤ 100000 then M.alloc (.list ((List.range n.toNat).map fun (k : Nat) => .int (k : Int))) H else .bad
    | .loc _ => match itemsOf v H with
      | some xs => M.alloc (.list xs) H
      | none => .bad
    | _ => .bad
  | .max2, [.int a, .int b] => .ret (.int (if b > a then b else a))
  | _, _ => .bad

noncomputable def bmV (m : BM) (o : Val) (args : List Val) : M Val := fun H =>
  match o with
  | .str s =>
    match m, args with
    | _, _ => .bad
  | .loc l =>
    match H[l]? with
    | some (.list xs) =>
      match m, args with
      | .append, [v] => if xs.length < lid then .ok .none (H.set l (.list (xs ++ [v]))) else .bad
      | .pop, [] => match xs.getLast? with
        | some v => .ok v (H.set l (.list xs.dropLast))
        | none => .bad
      | _, _ => .bad
    | some (.dict es) =>
      match m, args with
      | .get, [k] => match keyOf k with
        | some k => .ok ((dget es k).getD .none) H
        | none => .bad
      | _, _ => .bad
    | _ => .bad
  | _ => .bad

/- the built-in kinds -/
inductive Kd where
  | none | bool | int | str | tuple | list | dict
noncomputable def kdOf (H : Hp) : Val → Option Kd
  | .none => some .none
  | .bool _ => some .bool
  | .int _ => some .int
  | .str _ => some .str
  | .tup _ => some .tuple
  | .script _ => some .list
  | .loc l =>
    match H[l]? with
    | some (.list _) => some .list
    | some (.dict _) => some .dict
    | _ => none
  | _ => none
noncomputable def isKd : Ty → Kd → Bool
  | .int, .int => true
  | .int, .bool => true
  | .bool, .bool => true
  | .str, .str => true
  | .tuple, .tuple => true
  | .list, .list => true
  | _, _ => false
noncomputable def isinstV (T : Tab) (v : Val) (t : Ty) : M Val := .look fun H =>
  match t with
  | .cls d =>
    match v with
    | .exc c => some (.bool (T.sub c d))
    | .loc l =>
      match H[l]? with
      | some (.inst c _) => some (.bool (T.sub c d))
      | _ => none
    | _ => none
  | t => (kdOf H v).map fun k => .bool (isKd t k)

noncomputable def attrV (v : Val) (n : Nat) : M Val := .look fun H =>
  match v with
  | .loc l =>
    match H[l]? with
    | some (.inst _ fs) => fs.lookup n
    | _ => none
  | _ => none

noncomputable def fput : List (Nat × Val) → Nat → Val → List (Nat × Val)
  | [], n, v => [(n, v)]
  | (m, u) :: r, n, v => if m = n then (m, v) :: r else (m, u) :: fput r n v

noncomputable def setattrV (o : Val) (n : Nat) (v : Val) : M Unit := fun H =>
  match o with
  | .loc l =>
    match H[l]? with
    | some (.inst c fs) => .ok () (H.set l (.inst c (fput fs n v)))
    | _ => .bad
  | _ => .bad
noncomputable def setitemV (o i v : Val) : M Unit := fun H =>
  match o with
  | .loc l =>
    match H[l]? with
    | some (.list xs) =>
      match i with
      | .int k => if 0 ≤ k ∧ k < xs.length then .ok () (H.set l (.list (xs.set k.toNat v))) else .bad
      | _ => .bad
    | some (.dict es) =>
      match keyOf i with
      | some k => if es.length < lid then .ok () (H.set l (.dict (dput es k v))) else .bad
      | none => .bad
    | _ => .bad
  | _ => .bad

/- whether a thing has the method, when it is looked up -/
noncomputable def bmFits (m : BM) (o : Val) (H : Hp) : Option Unit :=
  match o with
  | .str _ =>
    match m with
    | _ => none
  | .loc l =>
    match H[l]? with
    | some (.list _) =>
      match m with
      | .append => some ()
      | .pop => some ()
      | _ => none
    | some (.dict _) =>
      match m with
      | .get => some ()
      | _ => none
    | _ => none
  | _ => none

noncomputable def truth : Val → M Bool
  | .bool b => .ret b
  | _ => .bad

noncomputable abbrev Env' := List (Option Val)
noncomputable abbrev Funs := Nat → List Val → M Val

noncomputable def compL (chk : Hp → Bool) (step : Val → M (Option Val)) : List Val → M (List Val)
  | [] => fun H => if chk H = true then .ok [] H else .bad
  | x :: xs => fun H => if chk H = true then ((step x).bnd fun r => (compL chk step xs).bnd fun ys => .ret (match r with | some y => y :: ys | none => ys)) H else .bad

noncomputable def newV (T : Tab) (Φ : Funs) (c : Nat) (args : List Val) : M Val :=
  match T.meth c 0 with
  | some k => (M.alloc (.inst c [])).bnd fun o => (Φ k (o :: args)).bnd fun r => match r with
    | .none => .ret o
    | _ => .bad
  | none => .bad
noncomputable def umethOf (T : Tab) (o : Val) (m : Nat) : M Nat := .look fun H =>
  match o with
  | .loc l =>
    match H[l]? with
    | some (.inst c _) => T.meth c m
    | _ => none
  | _ => none

mutual
noncomputable def evalE (T : Tab) (Φ : Funs) : ME → Env' → M Val
  | .none, _ => .ret .none
  | .bool b, _ => .ret (.bool b)
  | .int i, _ => .ret (.int i)
  | .glob k, _ => .ofOpt T.globs[k]?
  | .var i, Γ => .ofOpt (match Γ[i]? with | some (some v) => some v | _ => none)
  | .bin op a b, Γ => (evalE T Φ a Γ).bnd fun x => (evalE T Φ b Γ).bnd fun y => binV op x y
  | .neg a, Γ => (evalE T Φ a Γ).bnd fun x => match x with
    | .int i => .ret (.int (-i))
    | _ => .bad
  | .not a, Γ => (evalE T Φ a Γ).bnd fun x => (truth x).bnd fun b => .ret (.bool (!b))
  | .and a b, Γ => (evalE T Φ a Γ).bnd fun x => (truth x).bnd fun t => match t with
    | true => evalE T Φ b Γ
    | false => .ret (.bool false)
  | .or a b, Γ => (evalE T Φ a Γ).bnd fun x => (truth x).bnd fun t => match t with
    | true => .ret (.bool true)
    | false => evalE T Φ b Γ
  | .cmp op a b, Γ => (evalE T Φ a Γ).bnd fun x => (evalE T Φ b Γ).bnd fun y => (M.look (cmpV op x y)).bnd fun r => .ret (.bool r)
  | .cmp2 op1 op2 a b c, Γ => (evalE T Φ a Γ).bnd fun x => (evalE T Φ b Γ).bnd fun y => (M.look (cmpV op1 x y)).bnd fun r => match r with
    | true => (evalE T Φ c Γ).bnd fun z => (M.look (cmpV op2 y z)).bnd fun r => .ret (.bool r)
    | false => .ret (.bool false)
  | .sub a i, Γ => (evalE T Φ a Γ).bnd fun x => (evalE T Φ i Γ).bnd fun y => subV x y
  | .tup es, Γ => (evalEs T Φ es Γ).bnd fun vs => .ret (.tup vs)
  | .list es, Γ => (evalEs T Φ es Γ).bnd fun vs => M.alloc (.list vs)
  | .dict, _ => M.alloc (.dict [])
  | .attr a n, Γ => (evalE T Φ a Γ).bnd fun x => attrV x n
  | .call f es, Γ => (evalEs T Φ es Γ).bnd fun vs => Φ f vs
  | .new c es, Γ => match T.meth c 0 with
    | some _ => (evalEs T Φ es Γ).bnd fun vs => newV T Φ c vs
    | none => M.bad
  | .umeth a m es, Γ => (evalE T Φ a Γ).bnd fun o => (umethOf T o m).bnd fun k => (evalEs T Φ es Γ).bnd fun vs => Φ k (o :: vs)
  | .bf f es, Γ => (evalEs T Φ es Γ).bnd fun vs => bfV f vs
  | .bm a m es, Γ => (evalE T Φ a Γ).bnd fun o => (M.look (bmFits m o)).bnd fun _ => (evalEs T Φ es Γ).bnd fun vs => bmV m o vs
  | .isinst a t, Γ => (evalE T Φ a Γ).bnd fun x => isinstV T x t
  | .comp elt it cond, Γ => (evalE T Φ it Γ).bnd fun v => (M.look (iterOf v)).bnd fun p =>
      (M.quiet (compL (chk p.2 p.1) (fun x => (evalC T Φ cond (Γ ++ [some x])).bnd fun b => match b with
        | true => (evalE T Φ elt (Γ ++ [some x])).bnd fun y => .ret (some y)
        | false => .ret none) p.1)).bnd fun ys => if ys.length < lid then M.alloc (.list ys) else .bad
noncomputable def evalO (T : Tab) (Φ : Funs) : MEo → Env' → M Val
  | .none, _ => .ret .none
  | .some e, Γ => evalE T Φ e Γ
noncomputable def evalC (T : Tab) (Φ : Funs) : MEo → Env' → M Bool
  | .none, _ => .ret true
  | .some e, Γ => (evalE T Φ e Γ).bnd truth
noncomputable def evalEs (T : Tab) (Φ : Funs) : MEs → Env' → M (List Val)
  | .nil, _ => .ret []
  | .cons e es, Γ => (evalE T Φ e Γ).bnd fun v => (evalEs T Φ es Γ).bnd fun vs => .ret (v :: vs)
end

inductive ResS where
  | next (Γ : Env') (H : Hp)
  | ret (v : Val) (H : Hp)
  | exc (c : Nat) (Γ : Env') (H : Hp)
  | bad

noncomputable def bndS {α : Type} (m : M α) (Γ : Env') (f : α → Hp → ResS) (H : Hp) : ResS :=
  match m H with
  | .ok a H' => f a H'
  | .exc c H' => .exc c Γ H'
  | .bad => .bad
noncomputable def thenS (r : ResS) (f : Env' → Hp → ResS) : ResS :=
  match r with
  | .next Γ H => f Γ H
  | .ret v H => .ret v H
  | .exc c Γ H => .exc c Γ H
  | .bad => .bad

noncomputable def eachL (chk : Hp → Bool) (bind : Val → Env' → Option Env') (body : Env' → Hp → ResS) : List Val → Env' → Hp → ResS
  | [], Γ, H => if chk H = true then .next Γ H else .bad
  | x :: xs, Γ, H => if chk H = true then (match bind x Γ with
    | some Γ' => (match body Γ' H with
      | .exc _ _ _ => .bad
      | r => thenS r (eachL chk bind body xs))
    | none => .bad) else .bad
noncomputable def whileL (cond : Env' → M Bool) (body : Env' → Hp → ResS) : Nat → Env' → Hp → ResS
  | 0, _, _ => .bad
  | n + 1, Γ, H =>
    match cond Γ H with
    | .ok true H' =>
      match body Γ H' with
      | .next Γ' H'' => whileL cond body n Γ' H''
      | .ret v H'' => .ret v H''
      | _ => .bad
    | .ok false H' => .next Γ H'
    | _ => .bad
noncomputable def turns : Nat := 2 ^ 40

noncomputable def bind1 (i : Nat) (v : Val) (Γ : Env') : Option Env' := some (Γ.set i (some v))
/- two lists, or two tuples -/
mutual
noncomputable def execS (T : Tab) (Φ : Funs) : MS → Env' → Hp → ResS
  | .expr e, Γ, H => bndS (evalE T Φ e Γ) Γ (fun _ H => .next Γ H) H
  | .assign i e, Γ, H => bndS (evalE T Φ e Γ) Γ (fun v H => .next (Γ.set i (some v)) H) H
  | .setattr o n e, Γ, H => bndS (evalE T Φ e Γ) Γ (fun v => bndS (evalE T Φ o Γ) Γ fun o => bndS (setattrV o n v) Γ fun _ H => .next Γ H) H
  | .setitem o i e, Γ, H => bndS (evalE T Φ e Γ) Γ (fun v => bndS (evalE T Φ o Γ) Γ fun o => bndS (evalE T Φ i Γ) Γ fun i => bndS (setitemV o i v) Γ fun _ H => .next Γ H) H
  | .ret e, Γ, H => bndS (evalO T Φ e Γ) Γ (fun v H => .ret v H) H
  | .ite c t f, Γ, H => bndS ((evalE T Φ c Γ).bnd truth) Γ (fun b => match b with
    | true => execSs T Φ t Γ
    | false => execSs T Φ f Γ) H
  | .loop c body, Γ, H => whileL (fun Γ => (evalE T Φ c Γ).bnd truth) (execSs T Φ body) turns Γ H
  | .each i it body, Γ, H => bndS (evalE T Φ it Γ) Γ (fun v => bndS (M.look (iterOf v)) Γ fun p => eachL (chk p.2 p.1) (bind1 i) (execSs T Φ body) p.1 Γ) H
  | .raise _ _, _, _ => .bad
noncomputable def execSs (T : Tab) (Φ : Funs) : MSs → Env' → Hp → ResS
  | .nil, Γ, H => .next Γ H
  | .cons s ss, Γ, H => thenS (execS T Φ s Γ H) (execSs T Φ ss)
end

/- what a body's end gives back -/
noncomputable def resOf : ResS → Res Val
  | .next _ H' => .ok .none H'
  | .ret v H' => .ok v H'
  | .exc _ _ _ => .bad
  | .bad => .bad
noncomputable def runF (T : Tab) (Φ : Funs) (f : MFun) (args : List Val) : M Val := fun H =>
  if args.length = f.arity then resOf (execSs T Φ f.body (args.map some ++ List.replicate f.nvars none) H) else .bad
noncomputable def callF (T : Tab) : Nat → Funs
  | 0, _, _ => .bad
  | d + 1, k, args =>
    match T.funs[k]? with
    | none => .bad
    | some f => runF T (callF T d) f args
theorem ev_none {T : Tab} {Φ : Funs} {Γ : Env'} : evalE T Φ .none Γ = (.ret .none) := rfl
theorem ev_bool {T : Tab} {Φ : Funs} {Γ : Env'} (b) : evalE T Φ (.bool b) Γ = (.ret (.bool b)) := rfl
theorem ev_int {T : Tab} {Φ : Funs} {Γ : Env'} (i) : evalE T Φ (.int i) Γ = (.ret (.int i)) := rfl
theorem ev_glob {T : Tab} {Φ : Funs} {Γ : Env'} (k) : evalE T Φ (.glob k) Γ = (.ofOpt T.globs[k]?) := rfl
theorem ev_var {T : Tab} {Φ : Funs} {Γ : Env'} (i) : evalE T Φ (.var i) Γ = (.ofOpt (match Γ[i]? with | some (some v) => some v | _ => none)) := rfl
theorem ev_bin {T : Tab} {Φ : Funs} {Γ : Env'} (op a b) : evalE T Φ (.bin op a b) Γ = ((evalE T Φ a Γ).bnd fun x => (evalE T Φ b Γ).bnd fun y => binV op x y) := rfl
theorem ev_neg {T : Tab} {Φ : Funs} {Γ : Env'} (a) : evalE T Φ (.neg a) Γ = ((evalE T Φ a Γ).bnd fun x => match x with
    | .int i => .ret (.int (-i))
    | _ => .bad) := rfl
theorem ev_not {T : Tab} {Φ : Funs} {Γ : Env'} (a) : evalE T Φ (.not a) Γ = ((evalE T Φ a Γ).bnd fun x => (truth x).bnd fun b => .ret (.bool (!b))) := rfl
theorem ev_and {T : Tab} {Φ : Funs} {Γ : Env'} (a b) : evalE T Φ (.and a b) Γ = ((evalE T Φ a Γ).bnd fun x => (truth x).bnd fun t => match t with
    | true => evalE T Φ b Γ
    | false => .ret (.bool false)) := rfl
theorem ev_or {T : Tab} {Φ : Funs} {Γ : Env'} (a b) : evalE T Φ (.or a b) Γ = ((evalE T Φ a Γ).bnd fun x => (truth x).bnd fun t => match t with
    | true => .ret (.bool true)
    | false => evalE T Φ b Γ) := rfl
theorem ev_cmp {T : Tab} {Φ : Funs} {Γ : Env'} (op a b) : evalE T Φ (.cmp op a b) Γ = ((evalE T Φ a Γ).bnd fun x => (evalE T Φ b Γ).bnd fun y => (M.look (cmpV op x y)).bnd fun r => .ret (.bool r)) := rfl
theorem ev_cmp2 {T : Tab} {Φ : Funs} {Γ : Env'} (op1 op2 a b c) : evalE T Φ (.cmp2 op1 op2 a b c) Γ = ((evalE T Φ a Γ).bnd fun x => (evalE T Φ b Γ).bnd fun y => (M.look (cmpV op1 x y)).bnd fun r => match r with
    | true => (evalE T Φ c Γ).bnd fun z => (M.look (cmpV op2 y z)).bnd fun r => .ret (.bool r)
    | false => .ret (.bool false)) := rfl
theorem ev_sub {T : Tab} {Φ : Funs} {Γ : Env'} (a i) : evalE T Φ (.sub a i) Γ = ((evalE T Φ a Γ).bnd fun x => (evalE T Φ i Γ).bnd fun y => subV x y) := rfl
theorem ev_tup {T : Tab} {Φ : Funs} {Γ : Env'} (es) : evalE T Φ (.tup es) Γ = ((evalEs T Φ es Γ).bnd fun vs => .ret (.tup vs)) := rfl
theorem ev_list {T : Tab} {Φ : Funs} {Γ : Env'} (es) : evalE T Φ (.list es) Γ = ((evalEs T Φ es Γ).bnd fun vs => M.alloc (.list vs)) := rfl
theorem ev_attr {T : Tab} {Φ : Funs} {Γ : Env'} (a n) : evalE T Φ (.attr a n) Γ = ((evalE T Φ a Γ).bnd fun x => attrV x n) := rfl
theorem ev_call {T : Tab} {Φ : Funs} {Γ : Env'} (f es) : evalE T Φ (.call f es) Γ = ((evalEs T Φ es Γ).bnd fun vs => Φ f vs) := rfl
theorem ev_new {T : Tab} {Φ : Funs} {Γ : Env'} (c es) : evalE T Φ (.new c es) Γ = (match T.meth c 0 with
    | some _ => (evalEs T Φ es Γ).bnd fun vs => newV T Φ c vs
    | none => M.bad) := rfl
theorem ev_umeth {T : Tab} {Φ : Funs} {Γ : Env'} (a m es) : evalE T Φ (.umeth a m es) Γ = ((evalE T Φ a Γ).bnd fun o => (umethOf T o m).bnd fun k => (evalEs T Φ es Γ).bnd fun vs => Φ k (o :: vs)) := rfl
theorem ev_bf {T : Tab} {Φ : Funs} {Γ : Env'} (f es) : evalE T Φ (.bf f es) Γ = ((evalEs T Φ es Γ).bnd fun vs => bfV f vs) := rfl
theorem ev_bm {T : Tab} {Φ : Funs} {Γ : Env'} (a m es) : evalE T Φ (.bm a m es) Γ = ((evalE T Φ a Γ).bnd fun o => (M.look (bmFits m o)).bnd fun _ => (evalEs T Φ es Γ).bnd fun vs => bmV m o vs) := rfl
theorem ev_isinst {T : Tab} {Φ : Funs} {Γ : Env'} (a t) : evalE T Φ (.isinst a t) Γ = ((evalE T Φ a Γ).bnd fun x => isinstV T x t) := rfl
theorem ex_expr {T : Tab} {Φ : Funs} {Γ : Env'} {H : Hp} (e) : execS T Φ (.expr e) Γ H = (bndS (evalE T Φ e Γ) Γ (fun _ H => .next Γ H) H) := rfl
theorem ex_assign {T : Tab} {Φ : Funs} {Γ : Env'} {H : Hp} (i e) : execS T Φ (.assign i e) Γ H = (bndS (evalE T Φ e Γ) Γ (fun v H => .next (Γ.set i (some v)) H) H) := rfl
theorem ex_setattr {T : Tab} {Φ : Funs} {Γ : Env'} {H : Hp} (o n e) : execS T Φ (.setattr o n e) Γ H = (bndS (evalE T Φ e Γ) Γ (fun v => bndS (evalE T Φ o Γ) Γ fun o => bndS (setattrV o n v) Γ fun _ H => .next Γ H) H) := rfl
theorem ex_setitem {T : Tab} {Φ : Funs} {Γ : Env'} {H : Hp} (o i e) : execS T Φ (.setitem o i e) Γ H = (bndS (evalE T Φ e Γ) Γ (fun v => bndS (evalE T Φ o Γ) Γ fun o => bndS (evalE T Φ i Γ) Γ fun i => bndS (setitemV o i v) Γ fun _ H => .next Γ H) H) := rfl
theorem ex_ret {T : Tab} {Φ : Funs} {Γ : Env'} {H : Hp} (e) : execS T Φ (.ret e) Γ H = (bndS (evalO T Φ e Γ) Γ (fun v H => .ret v H) H) := rfl
theorem ex_ite {T : Tab} {Φ : Funs} {Γ : Env'} {H : Hp} (c t f) : execS T Φ (.ite c t f) Γ H = (bndS ((evalE T Φ c Γ).bnd truth) Γ (fun b => match b with
    | true => execSs T Φ t Γ
    | false => execSs T Φ f Γ) H) := rfl
theorem ex_loop {T : Tab} {Φ : Funs} {Γ : Env'} {H : Hp} (c body) : execS T Φ (.loop c body) Γ H = (whileL (fun Γ => (evalE T Φ c Γ).bnd truth) (execSs T Φ body) turns Γ H) := rfl
theorem ex_each {T : Tab} {Φ : Funs} {Γ : Env'} {H : Hp} (i it body) : execS T Φ (.each i it body) Γ H = (bndS (evalE T Φ it Γ) Γ (fun v => bndS (M.look (iterOf v)) Γ fun p => eachL (chk p.2 p.1) (bind1 i) (execSs T Φ body) p.1 Γ) H) := rfl
theorem evs_cons {T : Tab} {Φ : Funs} {Γ : Env'} (e es) : evalEs T Φ (.cons e es) Γ = ((evalE T Φ e Γ).bnd fun v => (evalEs T Φ es Γ).bnd fun vs => .ret (v :: vs)) := rfl
theorem exs_cons {T : Tab} {Φ : Funs} {Γ : Env'} {H : Hp} (s ss) : execSs T Φ (.cons s ss) Γ H = thenS (execS T Φ s Γ H) (execSs T Φ ss) := rfl
theorem evc_some {T : Tab} {Φ : Funs} {Γ : Env'} (e) : evalC T Φ (.some e) Γ = (evalE T Φ e Γ).bnd truth := rfl
end
end Mine

-- part MRel
namespace Mine
open PySem

noncomputable abbrev Rho := List (Addr × Addr)
noncomputable def Owned (ρ : Rho) (a : Addr) : Prop := ∃ p ∈ ρ, a = p.1 ∨ a = p.2
noncomputable def Grow (ρ : Rho) (h : Heap) (ρ' : Rho) : Prop := ∃ e, ρ' = ρ ++ e ∧ ∀ p ∈ e, h.get? p.1 = none ∧ h.get? p.2 = none
noncomputable def Live (h h' : Heap) : Prop := ∀ b o, h.get? b = some o → ∃ o', h'.get? b = some o'
theorem Live.refl (h : Heap) : Live h h := fun _ o e => ⟨o, e⟩
theorem Live.trans {h h' h'' : Heap} (x : Live h h') (y : Live h' h'') : Live h h'' := fun b o e => let ⟨o', e'⟩ := x b o e; y b o' e'
theorem Live.none {h h' : Heap} (x : Live h h') {a : Addr} (e : h'.get? a = none) : h.get? a = none := by
  cases q : h.get? a with
  | none => rfl
  | some o => obtain ⟨o', e'⟩ := x a o q; rw [e] at e'; cases e'
theorem fresh_none (h : Heap) : h.get? h.objs.size = none := by
  cases q : h.get? h.objs.size with
  | none => rfl
  | some o => exact absurd (Heap.lt_size q) (Nat.lt_irrefl _)
theorem fresh_le {h : Heap} {a : Addr} (z : h.objs.size ≤ a) : h.get? a = none := by
  cases q : h.get? a with
  | none => rfl
  | some o => exact absurd (Heap.lt_size q) (Nat.not_lt.mpr z)
/- a frame's slots may be turned -/
noncomputable def SameUp (o o' : Obj) : Prop := o' = o ∨ ((∃ es n, o.data = .dict es n) ∧ o' = { o with slots := o'.slots })
theorem SameUp.refl (o : Obj) : SameUp o o := .inl rfl
theorem SameUp.trans {o o' o'' : Obj} (x : SameUp o o') (y : SameUp o' o'') : SameUp o o'' := by
  rcases x with rfl | ⟨c, e⟩
  · exact y
  · rcases y with rfl | ⟨_, e'⟩
    · exact .inr ⟨c, e⟩
    · exact .inr ⟨c, by rw [e', e]⟩
theorem SameUp.exact {o o' : Obj} (x : SameUp o o') (n : ∀ es n, o.data ≠ .dict es n) : o' = o := x.elim id fun ⟨⟨es, k, e⟩, _⟩ => absurd e (n es k)
theorem SameUp.data {o o' : Obj} (x : SameUp o o') : o'.data = o.data := by rcases x with rfl | ⟨_, e⟩; rfl; rw [e]
noncomputable def Keep (ρ : Rho) (h h' : Heap) : Prop := ∀ b o, h.get? b = some o → ¬ Owned ρ b → ∃ o', h'.get? b = some o' ∧ SameUp o o'
theorem Keep.exact {ρ : Rho} {h h' : Heap} (k : Keep ρ h h') {b : Addr} {o : Obj} (e : h.get? b = some o) (n : ¬ Owned ρ b) (c : ∀ es n, o.data ≠ .dict es n) : h'.get? b = some o := by
  obtain ⟨o', e', u⟩ := k b o e n
  rw [e', u.exact c]
/- kinds that never change -/
noncomputable def Fixed (o : Obj) : Prop := (o.cls = .type "tuple" ∧ ∃ xs n, o.data = .seq xs n) ∨ (o.cls = .type "range" ∧ ∃ vs, o.data = .fields vs)
noncomputable def IsExcO (o : Obj) (C : Addr) : Prop := o.cls = .ref C ∧ ∃ vs, o.data = .fields vs
theorem Fixed.notDict {o : Obj} (f : Fixed o) (es : Array DictEntry) (n : Nat) : o.data ≠ .dict es n := by
  rcases f with ⟨_, xs, k, e⟩ | ⟨_, vs, e⟩ <;> rw [e] <;> exact fun q => nomatch q
theorem IsExcO.notDict {o : Obj} {C : Addr} (f : IsExcO o C) (es : Array DictEntry) (n : Nat) : o.data ≠ .dict es n := by
  obtain ⟨_, vs, e⟩ := f
  rw [e]; exact fun q => nomatch q

theorem Grow.refl (ρ : Rho) (h : Heap) : Grow ρ h ρ := ⟨[], by simp, by simp⟩
theorem Grow.owned {ρ ρ' : Rho} {h : Heap} (g : Grow ρ h ρ') {a : Addr} (o : Owned ρ' a) : Owned ρ a ∨ h.get? a = none := by
  obtain ⟨e, rfl, he⟩ := g
  obtain ⟨p, hp, hpa⟩ := o
  rcases List.mem_append.mp hp with hp | hp
  · exact .inl ⟨p, hp, hpa⟩
  · right
    rcases hpa with rfl | rfl
    · exact (he p hp).1
    · exact (he p hp).2
theorem Grow.sub {ρ ρ' : Rho} {h : Heap} (g : Grow ρ h ρ') {a : Addr} (o : Owned ρ a) : Owned ρ' a := by
  obtain ⟨e, rfl, he⟩ := g
  obtain ⟨p, hp, hpa⟩ := o
  exact ⟨p, List.mem_append.mpr (.inl hp), hpa⟩
theorem Grow.get {ρ ρ' : Rho} {h : Heap} (g : Grow ρ h ρ') {l : Nat} {p : Addr × Addr} (e : ρ[l]? = some p) : ρ'[l]? = some p := by
  obtain ⟨e', rfl, he⟩ := g
  obtain ⟨hl, _⟩ := List.getElem?_eq_some_iff.mp e
  rw [List.getElem?_append_left hl, e]
theorem Grow.not {ρ ρ' : Rho} {h : Heap} (g : Grow ρ h ρ') {a : Addr} {o : Obj} (n : ¬ Owned ρ a) (e : h.get? a = some o) : ¬ Owned ρ' a := fun w => by
  rcases g.owned w with w | w
  · exact n w
  · rw [e] at w; cases w
theorem Grow.trans {ρ ρ' ρ'' : Rho} {h h' : Heap} (x : Grow ρ h ρ') (y : Grow ρ' h' ρ'') (z : Live h h') : Grow ρ h ρ'' := by
  obtain ⟨e1, rfl, h1⟩ := x
  obtain ⟨e2, rfl, h2⟩ := y
  refine ⟨e1 ++ e2, by rw [List.append_assoc], fun p hp => ?_⟩
  rcases List.mem_append.mp hp with hp | hp
  · exact h1 p hp
  · exact ⟨z.none (h2 p hp).1, z.none (h2 p hp).2⟩

/- what values lean on stands -/
structure Step (ρ : Rho) (h : Heap) (ρ' : Rho) (h' : Heap) : Prop where
  more : ∃ e, ρ' = ρ ++ e
  keepT : ∀ b o, h.get? b = some o → Fixed o → ¬ Owned ρ b → h'.get? b = some o ∧ ¬ Owned ρ' b
  keepC : ∀ b o C, h.get? b = some o → IsExcO o C → ¬ Owned ρ b → ∃ o', h'.get? b = some o' ∧ IsExcO o' C ∧ ¬ Owned ρ' b
theorem Step.get {ρ ρ' : Rho} {h h' : Heap} (st : Step ρ h ρ' h') {l : Nat} {p : Addr × Addr} (e : ρ[l]? = some p) : ρ'[l]? = some p := by
  obtain ⟨e', rfl⟩ := st.more
  obtain ⟨hl, _⟩ := List.getElem?_eq_some_iff.mp e
  rw [List.getElem?_append_left hl, e]
/- all that is not owned stands -/
structure Full (ρ : Rho) (h : Heap) (ρ' : Rho) (h' : Heap) : Prop where
  grow : Grow ρ h ρ'
  keep : Keep ρ h h'
  live : Live h h'
theorem Full.step {ρ ρ' : Rho} {h h' : Heap} (x : Full ρ h ρ' h') : Step ρ h ρ' h' :=
  ⟨let ⟨e, h1, _⟩ := x.grow; ⟨e, h1⟩, fun b o e f n => ⟨x.keep.exact e n f.notDict, x.grow.not n e⟩, fun b o C e c n => ⟨o, x.keep.exact e n c.notDict, c, x.grow.not n e⟩⟩
theorem Full.refl (ρ : Rho) (h : Heap) : Full ρ h ρ h := ⟨Grow.refl ρ h, fun _ o e _ => ⟨o, e, .refl o⟩, .refl h⟩
theorem Step.refl (ρ : Rho) (h : Heap) : Step ρ h ρ h := (Full.refl ρ h).step
theorem Full.trans {ρ ρ' ρ'' : Rho} {h h' h'' : Heap} (x : Full ρ h ρ' h') (y : Full ρ' h' ρ'' h'') : Full ρ h ρ'' h'' :=
  ⟨x.grow.trans y.grow x.live, fun b o e n => by
      obtain ⟨o', e', u⟩ := x.keep b o e n
      obtain ⟨o'', e'', u'⟩ := y.keep b o' e' (x.grow.not n e)
      exact ⟨o'', e'', u.trans u'⟩, x.live.trans y.live⟩
/- objects are only added -/
theorem Full.more {ρ : Rho} {h h' : Heap} (k : ∀ b o, h.get? b = some o → h'.get? b = some o) : Full ρ h ρ h' :=
  ⟨Grow.refl ρ h, fun b o e _ => ⟨o, k b o e, .refl o⟩, fun b o e => ⟨o, k b o e⟩⟩
theorem Full.push (ρ : Rho) (h : Heap) (o : Obj) : Full ρ h ρ (h.push o) := Full.more fun _ _ e => Heap.get?_push_of_some _ e
theorem Full.alloc {ρ : Rho} {h h' : Heap} {p : Addr × Addr} (k : ∀ b o, h.get? b = some o → h'.get? b = some o) (hp : h.get? p.1 = none ∧ h.get? p.2 = none) : Full ρ h (ρ ++ [p]) h' :=
  ⟨⟨[p], rfl, fun q hq => by rw [List.mem_singleton.mp hq]; exact hp⟩, fun b o e _ => ⟨o, k b o e, .refl o⟩, fun b o e => ⟨o, k b o e⟩⟩
/- all stands but one object that no value leans on -/
theorem Step.ext {ρ : Rho} {h h' : Heap} {a : Addr} {o : Obj} (e : h.get? a = some o) (hs : Heap.ExtBut a h h') (n1 : ¬ Fixed o) (n2 : ∀ C, ¬ IsExcO o C) : Step ρ h ρ h' :=
  ⟨⟨[], by simp⟩, fun b ob eb f no => ⟨hs b ob (fun q => by subst q; rw [e] at eb; cases eb; exact n1 f) eb, no⟩,
    fun b ob C eb c no => ⟨ob, hs b ob (fun q => by subst q; rw [e] at eb; cases eb; exact n2 C c) eb, c, no⟩⟩
/- one object that no value leans on is turned -/
theorem SameBut.live {h h' : Heap} {a : Addr} {o' : Obj} (hs : Heap.SameBut a h h') (e' : h'.get? a = some o') : Live h h' := fun b o e => by
  by_cases q : b = a
  · subst q; exact ⟨o', e'⟩
  · exact ⟨o, by rw [hs.2 b q]; exact e⟩
theorem Step.but {ρ : Rho} {h h' : Heap} {a : Addr} {o o' : Obj} (e' : h'.get? a = some o') (e : h.get? a = some o) (hs : Heap.SameBut a h h') (n1 : ¬ Fixed o) (n2 : ∀ C, ¬ IsExcO o C) : Step ρ h ρ h' :=
  ⟨⟨[], by simp⟩, fun b ob eb f no => by
      by_cases q : b = a
      · subst q; rw [e] at eb; cases eb; exact absurd f n1
      · rw [hs.2 b q]; exact ⟨eb, no⟩,
    fun b ob C eb c no => by
      by_cases q : b = a
      · subst q; rw [e] at eb; cases eb; exact absurd c (n2 C)
      · exact ⟨ob, by rw [hs.2 b q]; exact eb, c, no⟩⟩
/- an owned object is turned -/
theorem Full.own {ρ : Rho} {h h' : Heap} {a : Addr} {o' : Obj} (o : Owned ρ a) (e' : h'.get? a = some o') (hs : Heap.SameBut a h h') : Full ρ h ρ h' :=
  ⟨Grow.refl ρ h, fun b ob eb n => by
      have q : b ≠ a := fun q => n (q ▸ o)
      exact ⟨ob, by rw [hs.2 b q]; exact eb, .refl ob⟩, SameBut.live hs e'⟩

/- what is static about the text -/
structure Cx where
  prog : Program
  w : World
  T : Tab
  s₀ : Shared
  cls : List Value
  attrs : List Str
  fns : List Addr
noncomputable def Cx.h₀ (cx : Cx) : Heap := cx.s₀.heap

noncomputable def listO (vs : List Value) (n : Nat) : Obj := { cls := .type "list", dict := none, data := .seq vs.toArray n, slots := #[] }
noncomputable def tupO (vs : List Value) (n : Nat) : Obj := { cls := .type "tuple", dict := none, data := .seq vs.toArray n, slots := #[] }

mutual
inductive VR (cx : Cx) (ρ : Rho) (h : Heap) : Val → Value → Prop
  | none : VR cx ρ h .none .none
  | bool (b : Bool) : VR cx ρ h (.bool b) (.bool b)
  | int (i : Int) (t : Tok) : VR cx ρ h (.int i) (.int i t)
  | str (s : Str) (t : Tok) : s.length ≤ sizeLine → VR cx ρ h (.str s) (.str s t)
  | tup {a : Addr} {vs : List Value} {n : Nat} {ms : List Val} : h.get? a = some (tupO vs n) → ¬ Owned ρ a → ms.length ≤ sizeLine → VRs cx ρ h ms vs → VR cx ρ h (.tup ms) (.ref a)
  | loc {l : Nat} {p : Addr × Addr} : ρ[l]? = some p → VR cx ρ h (.loc l) (.ref p.1)
  | script {a : Addr} {vs : List Value} {n : Nat} {ns : List Int} : cx.h₀.get? a = some (listO vs n) → ns.length ≤ sizeLine → VRs cx ρ h (ns.map .int) vs → VR cx ρ h (.script ns) (.ref a)
  | rng {a : Addr} {i : Int} {t u v : Tok} : IsRange h a 0 i 1 t u v → ¬ Owned ρ a → -(2 ^ 62) ≤ i → i < 2 ^ 62 → VR cx ρ h (.rng i) (.ref a)
  | exc {a : Addr} {o : Obj} {c : Nat} {C : Addr} : h.get? a = some o → ¬ Owned ρ a → cx.cls[c]? = some (.ref C) → IsExcO o C → VR cx ρ h (.exc c) (.ref a)
inductive VRs (cx : Cx) (ρ : Rho) (h : Heap) : List Val → List Value → Prop
  | nil : VRs cx ρ h [] []
  | cons {m : Val} {v : Value} {ms : List Val} {vs : List Value} : VR cx ρ h m v → VRs cx ρ h ms vs → VRs cx ρ h (m :: ms) (v :: vs)
end

mutual
theorem VR.step {cx : Cx} {ρ ρ' : Rho} {h h' : Heap} (st : Step ρ h ρ' h') : ∀ {m : Val} {v : Value}, VR cx ρ h m v → VR cx ρ' h' m v
  | _, _, .none => .none
  | _, _, .bool b => .bool b
  | _, _, .int i t => .int i t
  | _, _, .str s t z => .str s t z
  | _, _, .tup e n z r => .tup (st.keepT _ _ e (.inl ⟨rfl, _, _, rfl⟩) n).1 (st.keepT _ _ e (.inl ⟨rfl, _, _, rfl⟩) n).2 z (VRs.step st r)
  | _, _, .loc e => .loc (st.get e)
  | _, _, .script e z r => .script e z (VRs.step st r)
  | _, _, .rng e n z1 z2 => .rng (st.keepT _ _ e (.inr ⟨rfl, _, rfl⟩) n).1 (st.keepT _ _ e (.inr ⟨rfl, _, rfl⟩) n).2 z1 z2
  | _, _, .exc e n k c => by
    obtain ⟨o', e', c', n'⟩ := st.keepC _ _ _ e c n
    exact .exc e' n' k c'
theorem VRs.step {cx : Cx} {ρ ρ' : Rho} {h h' : Heap} (st : Step ρ h ρ' h') : ∀ {ms : List Val} {vs : List Value}, VRs cx ρ h ms vs → VRs cx ρ' h' ms vs
  | _, _, .nil => .nil
  | _, _, .cons a r => .cons (VR.step st a) (VRs.step st r)
end
section
variable {cx : Cx} {ρ : Rho} {h : Heap} {ms ms' : List Val} {vs vs' : List Value} {m : Val} {v : Value}
theorem VRs.length (r : VRs cx ρ h ms vs) : ms.length = vs.length := by
  induction ms generalizing vs with
  | nil => cases r; rfl
  | cons m ms ih => cases r with | cons a r => rw [List.length_cons, List.length_cons, ih r]
theorem VRs.append (r : VRs cx ρ h ms vs) (r' : VRs cx ρ h ms' vs') : VRs cx ρ h (ms ++ ms') (vs ++ vs') := by
  induction ms generalizing vs with
  | nil => cases r; exact r'
  | cons m ms ih => cases r with | cons a r => exact .cons a (ih r)
theorem VRs.get (r : VRs cx ρ h ms vs) {k : Nat} (e : ms[k]? = some m) : ∃ v, vs[k]? = some v ∧ VR cx ρ h m v := by
  induction ms generalizing vs k with
  | nil => simp at e
  | cons m' ms ih =>
    cases r with
    | cons a r =>
      cases k with
      | zero => simp at e; subst e; exact ⟨_, by simp, a⟩
      | succ k => simp at e; obtain ⟨v, hv, hr⟩ := ih r e; exact ⟨v, by simpa using hv, hr⟩
theorem VRs.one (r : VR cx ρ h m v) : VRs cx ρ h [m] [v] := .cons r .nil
theorem VRs.set (r : VRs cx ρ h ms vs) (k : Nat) (a : VR cx ρ h m v) : VRs cx ρ h (ms.set k m) (vs.set k v) := by
  induction ms generalizing vs k with
  | nil => cases r; exact .nil
  | cons m' ms ih =>
    cases r with
    | cons b r =>
      cases k with
      | zero => exact .cons a r
      | succ k => exact .cons b (ih r k)
theorem VRs.eraseIdx (r : VRs cx ρ h ms vs) (k : Nat) : VRs cx ρ h (ms.eraseIdx k) (vs.eraseIdx k) := by
  induction ms generalizing vs k with
  | nil => cases r; simp; exact .nil
  | cons m' ms ih =>
    cases r with
    | cons b r =>
      cases k with
      | zero => exact r
      | succ k => exact .cons b (ih r k)
theorem VRs.replicate (a : VR cx ρ h m v) (n : Nat) : VRs cx ρ h (List.replicate n m) (List.replicate n v) := by
  induction n with
  | zero => exact .nil
  | succ n ih => exact .cons a ih
end

noncomputable abbrev cellKind (cx : Cx) : HeapKind cx.prog cx.w (List Int) := tupleKind (intKind cx.prog cx.w)

inductive DRs (cx : Cx) (ρ : Rho) (h : Heap) : List (Key × Val) → List (List Int × Addr × Value) → Prop
  | nil : DRs cx ρ h [] []
  | cons {k : Key} {v : Val} {b : Addr} {x : Value} {es : List (Key × Val)} {xs : List (List Int × Addr × Value)} :
      VR cx ρ h v x → ¬ Owned ρ b → DRs cx ρ h es xs → DRs cx ρ h ((k, v) :: es) (([k.1, k.2], b, x) :: xs)
theorem DRs.step {cx : Cx} {ρ ρ' : Rho} {h h' : Heap} (st : Step ρ h ρ' h') {es : List (Key × Val)} {xs : List (List Int × Addr × Value)} (hk : ∀ x ∈ xs, (cellKind cx).is h x.1 x.2.1) (r : DRs cx ρ h es xs) : DRs cx ρ' h' es xs := by
  induction r with
  | nil => exact .nil
  | @cons k v b x es xs a n _ ih =>
    refine .cons (a.step st) ?_ (ih fun x hx => hk x (.tail _ hx))
    obtain ⟨o, _, _, ho, hc, hd, _⟩ := hk _ (.head _)
    exact (st.keepT _ _ ho (.inl ⟨hc, _, _, hd⟩) n).2

/- the object that stands for one of the mini heap's -/
inductive HR (cx : Cx) (ρ : Rho) (h : Heap) : HObj → Addr × Addr → Prop
  | list {a : Addr} {vs : List Value} {n : Nat} {xs : List Val} : h.get? a = some (listO vs n) → VRs cx ρ h xs vs → xs.length ≤ sizeLine → HR cx ρ h (.list xs) (a, a)
  | dict {a : Addr} {es : List (Key × Val)} {xs : List (List Int × Addr × Value)} : h.DictOfH (cellKind cx) a xs → DRs cx ρ h es xs → es.length ≤ sizeLine → HR cx ρ h (.dict es) (a, a)
  | inst {a d C : Addr} {o : Obj} {c : Nat} {fs : List (Nat × Val)} {mA : Str → Option Value} : (cx.T.meth c 0).isSome = true → cx.cls[c]? = some (.ref C) → h.get? a = some o → o.cls = .ref C → (∀ c, o.data ≠ .cls c) → o.dict = some d → d ≠ a → h.Ns1 d mA →
      (∀ n v, fs.lookup n = some v → ∃ y x, cx.attrs[n]? = some y ∧ mA y = some x ∧ VR cx ρ h v x) →
      (∀ y, mA y ≠ none → ∃ n v, cx.attrs[n]? = some y ∧ fs.lookup n = some v) →
      HR cx ρ h (.inst c fs) (a, d)
  | hid {a : Addr} {x y : Value} : h.get? a = some (tupO [x, y] 0) → HR cx ρ h .hid (a, a)

structure Rel (cx : Cx) (H : Hp) (ρ : Rho) (s : Shared) : Prop where
  len : H.length = ρ.length
  objs : ∀ (l : Nat) (o : HObj) (p : Addr × Addr), H[l]? = some o → ρ[l]? = some p → HR cx ρ s.heap o p
  apart : ∀ (i j : Nat) (p q : Addr × Addr), i ≠ j → ρ[i]? = some p → ρ[j]? = some q → (p.1 ≠ q.1 ∧ p.1 ≠ q.2) ∧ (p.2 ≠ q.1 ∧ p.2 ≠ q.2)
  new : ∀ p ∈ ρ, cx.h₀.get? p.1 = none ∧ cx.h₀.get? p.2 = none
  base : ∀ b o, cx.h₀.get? b = some o → s.heap.get? b = some o
  sys : ∃ o, cx.h₀.get? sysModules = some o
  rest : ∃ h tk, s = { cx.s₀ with heap := h, toks := tk }

theorem Rel.size {cx : Cx} {H : Hp} {ρ : Rho} {s : Shared} (R : Rel cx H ρ s) : ∀ p ∈ ρ, (∃ o, s.heap.get? p.1 = some o) ∧ ∃ o, s.heap.get? p.2 = some o := by
  intro p hp
  obtain ⟨l, hl, e⟩ := List.mem_iff_getElem.mp hp
  have e' : ρ[l]? = some p := by rw [List.getElem?_eq_getElem hl, e]
  have hH : l < H.length := by rw [R.len]; exact hl
  obtain ⟨ob, hob⟩ : ∃ ob, H[l]? = some ob := ⟨_, List.getElem?_eq_getElem hH⟩
  have := R.objs l ob p hob e'
  clear e e'
  cases this with
  | list q _ _ => exact ⟨⟨_, q⟩, _, q⟩
  | dict q _ _ => obtain ⟨o, _, _, q, _⟩ := q; exact ⟨⟨_, q⟩, _, q⟩
  | inst _ _ q _ _ _ _ n _ _ => obtain ⟨o', _, _, q', _⟩ := n; exact ⟨⟨_, q⟩, _, q'⟩
  | hid q => exact ⟨⟨_, q⟩, _, q⟩
theorem Rel.owned_lt {cx : Cx} {H : Hp} {ρ : Rho} {s : Shared} (R : Rel cx H ρ s) {a : Addr} (o : Owned ρ a) : ∃ o, s.heap.get? a = some o := by
  obtain ⟨p, hp, rfl | rfl⟩ := o
  · exact (R.size p hp).1
  · exact (R.size p hp).2
theorem Rel.owned_new {cx : Cx} {H : Hp} {ρ : Rho} {s : Shared} (R : Rel cx H ρ s) {a : Addr} (o : Owned ρ a) : cx.h₀.get? a = none := by
  obtain ⟨p, hp, rfl | rfl⟩ := o
  · exact (R.new p hp).1
  · exact (R.new p hp).2
theorem Rel.base_not {cx : Cx} {H : Hp} {ρ : Rho} {s : Shared} (R : Rel cx H ρ s) {a : Addr} {o : Obj} (e : cx.h₀.get? a = some o) : ¬ Owned ρ a := fun w => by rw [R.owned_new w] at e; cases e

/- an object's own addresses stand as they stood -/
theorem HR.step {cx : Cx} {ρ ρ' : Rho} {h h' : Heap} {o : HObj} {p : Addr × Addr} (x : HR cx ρ h o p) (st : Step ρ h ρ' h') (k : ∀ b ob, (b = p.1 ∨ b = p.2) → h.get? b = some ob → h'.get? b = some ob) : HR cx ρ' h' o p := by
  cases x with
  | list e r z => exact .list (k _ _ (.inl rfl) e) (r.step st) z
  | @dict a es xs D r z =>
    obtain ⟨ob, es', ep, e, ex, d, el, ks, nd⟩ := D
    have ks' : ∀ x ∈ xs, (cellKind cx).is h' x.1 x.2.1 := by
      intro x hx
      obtain ⟨ok, items, n, hk, hc, hd', rest⟩ := ks x hx
      refine ⟨ok, items, n, (st.keepT _ _ hk (.inl ⟨hc, _, _, hd'⟩) ?_).1, hc, hd', rest⟩
      clear rest el nd z ks d ex e k
      induction r with
      | nil => cases hx
      | cons a n _ ih =>
        cases hx with
        | head => exact n
        | tail _ hx => exact ih hx
    exact .dict ⟨ob, es', ep, k _ _ (.inl rfl) e, ex, d, el, ks', nd⟩ (r.step st ks) z
  | hid e => exact .hid (k _ _ (.inl rfl) e)
  | inst c0 c e k1 k2 k3 k4 n f g =>
    refine .inst c0 c (k _ _ (.inl rfl) e) k1 k2 k3 k4 (n.at fun o e => k _ _ (.inr rfl) e) (fun i v hv => ?_) g
    obtain ⟨y, x, h1, h2, h3⟩ := f i v hv
    exact ⟨y, x, h1, h2, h3.step st⟩

section
variable {cx : Cx} {H : Hp} {ρ : Rho} {s : Shared}
/- nothing owned is turned -/
theorem Rel.same (R : Rel cx H ρ s) {h' : Heap} {tk : Nat} (st : Step ρ s.heap ρ h') (ko : ∀ b o, Owned ρ b → s.heap.get? b = some o → h'.get? b = some o) (kb : ∀ b o, cx.h₀.get? b = some o → h'.get? b = some o) :
    Rel cx H ρ { s with heap := h', toks := tk } := by
  refine ⟨R.len, fun l o p hl hp => ?_, R.apart, R.new, kb, R.sys, ?_⟩
  · refine (R.objs l o p hl hp).step st fun b ob hb e => ko b ob ⟨p, List.mem_of_getElem? hp, hb⟩ e
  · obtain ⟨h, t, rfl⟩ := R.rest
    exact ⟨h', tk, rfl⟩
theorem Rel.toks (R : Rel cx H ρ s) (tk : Nat) : Rel cx H ρ { s with toks := tk } :=
  R.same (h' := s.heap) (Step.refl _ _) (fun _ _ _ e => e) R.base
theorem Rel.more (R : Rel cx H ρ s) {h' : Heap} {tk : Nat} (k : ∀ b o, s.heap.get? b = some o → h'.get? b = some o) : Rel cx H ρ { s with heap := h', toks := tk } :=
  R.same (Full.more k).step (fun b o _ e => k b o e) fun b o e => k b o (R.base b o e)
theorem Rel.push (R : Rel cx H ρ s) (o : Obj) (tk : Nat) : Rel cx H ρ { s with heap := s.heap.push o, toks := tk } :=
  R.more fun _ _ e => Heap.get?_push_of_some _ e
/- an object that is not owned, not the base's, and that no value leans on is turned -/
theorem Rel.but (R : Rel cx H ρ s) {h' : Heap} {tk : Nat} {a : Addr} {o : Obj} {o' : Obj} (e' : h'.get? a = some o') (e : s.heap.get? a = some o) (hs : Heap.SameBut a s.heap h') (n1 : ¬ Fixed o) (n2 : ∀ C, ¬ IsExcO o C) (no : ¬ Owned ρ a) (nb : cx.h₀.get? a = none) :
    Rel cx H ρ { s with heap := h', toks := tk } :=
  R.same (Step.but e' e hs n1 n2) (fun b ob ho eb => by rw [hs.2 b (fun q => no (q ▸ ho))]; exact eb) fun b ob eb => by
    rw [hs.2 b (fun q => by subst q; rw [nb] at eb; cases eb)]; exact R.base b ob eb
theorem Rel.fresh_not (R : Rel cx H ρ s) {a : Addr} (ha : s.heap.get? a = none) : ¬ Owned ρ a := fun w => by obtain ⟨o, e⟩ := R.owned_lt w; rw [ha] at e; cases e
/- a new object -/
theorem Rel.alloc (R : Rel cx H ρ s) {h' : Heap} {tk : Nat} {o : HObj} {p : Addr × Addr} (k : ∀ b o, s.heap.get? b = some o → h'.get? b = some o)
    (hp : s.heap.get? p.1 = none ∧ s.heap.get? p.2 = none) (x : HR cx (ρ ++ [p]) h' o p) : Full ρ s.heap (ρ ++ [p]) h' ∧ Rel cx (H ++ [o]) (ρ ++ [p]) { s with heap := h', toks := tk } := by
  have F : Full ρ s.heap (ρ ++ [p]) h' := ⟨⟨[p], rfl, fun q hq => by rw [List.mem_singleton.mp hq]; exact hp⟩, fun b o e _ => ⟨o, k b o e, .refl o⟩, fun b o e => ⟨o, k b o e⟩⟩
  refine ⟨F, ⟨by rw [List.length_append, List.length_append, R.len]; rfl, fun l ob q hl hq => ?_, fun i j q r hij hi hj => ?_, fun q hq => ?_, fun b o e => k b o (R.base b o e), R.sys, ?_⟩⟩
  · by_cases lt : l < H.length
    · rw [List.getElem?_append_left lt] at hl
      rw [List.getElem?_append_left (by rw [← R.len]; exact lt)] at hq
      exact (R.objs l ob q hl hq).step F.step fun b ob _ e => k b ob e
    · have hl' := (List.getElem?_eq_some_iff.mp hl).1
      have le : l = H.length := by rw [List.length_append] at hl'; simp at hl'; omega
      subst le
      rw [List.getElem?_append_right (Nat.le_refl _)] at hl
      rw [List.getElem?_append_right (by rw [R.len]; exact Nat.le_refl _)] at hq
      rw [R.len] at hq
      simp at hl hq
      subst hl hq
      exact x
  · have old : ∀ {i : Nat} {q : Addr × Addr}, ρ[i]? = some q → (∃ o, s.heap.get? q.1 = some o) ∧ ∃ o, s.heap.get? q.2 = some o := fun h => R.size _ (List.mem_of_getElem? h)
    have ne : ∀ {a b : Addr}, (∃ o, s.heap.get? a = some o) → s.heap.get? b = none → a ≠ b := fun ⟨o, e⟩ n q => by rw [q, n] at e; cases e
    have at' : ∀ {i : Nat} {q : Addr × Addr}, (ρ ++ [p])[i]? = some q → ρ[i]? = some q ∨ (i = ρ.length ∧ q = p) := by
      intro i q h
      by_cases lt : i < ρ.length
      · rw [List.getElem?_append_left lt] at h; exact .inl h
      · have hl' := (List.getElem?_eq_some_iff.mp h).1
        have le : i = ρ.length := by rw [List.length_append] at hl'; simp at hl'; omega
        subst le
        rw [List.getElem?_append_right (Nat.le_refl _)] at h
        simp at h
        exact .inr ⟨rfl, h.symm⟩
    rcases at' hi with hi' | ⟨hi', eq⟩ <;> rcases at' hj with hj' | ⟨hj', er⟩
    · exact R.apart i j q r hij hi' hj'
    · have q := old hi'; rw [er]; exact ⟨⟨ne q.1 hp.1, ne q.1 hp.2⟩, ne q.2 hp.1, ne q.2 hp.2⟩
    · have q := old hj'; rw [eq]; exact ⟨⟨(ne q.1 hp.1).symm, (ne q.2 hp.1).symm⟩, (ne q.1 hp.2).symm, (ne q.2 hp.2).symm⟩
    · exact absurd (hi'.trans hj'.symm) hij
  · rcases List.mem_append.mp hq with hq | hq
    · exact R.new q hq
    · have lv : Live cx.h₀ s.heap := fun b o e => ⟨o, R.base b o e⟩
      rw [List.mem_singleton.mp hq]; exact ⟨lv.none hp.1, lv.none hp.2⟩
  · obtain ⟨h, t, rfl⟩ := R.rest
    exact ⟨h', tk, rfl⟩
/- an object is turned -/
theorem Rel.set (R : Rel cx H ρ s) {l : Nat} {h' : Heap} {tk : Nat} {o : HObj} {p : Addr × Addr} (hl : ρ[l]? = some p) (k : ∀ b o, s.heap.get? b = some o → b ≠ p.1 → b ≠ p.2 → h'.get? b = some o) (z : Live s.heap h')
    (x : HR cx ρ h' o p) : Full ρ s.heap ρ h' ∧ Rel cx (H.set l o) ρ { s with heap := h', toks := tk } := by
  have own : ∀ b, ¬ Owned ρ b → b ≠ p.1 ∧ b ≠ p.2 := fun b n => ⟨fun e => n ⟨p, List.mem_of_getElem? hl, .inl e⟩, fun e => n ⟨p, List.mem_of_getElem? hl, .inr e⟩⟩
  have F : Full ρ s.heap ρ h' := ⟨Grow.refl _ _, fun b ob e n => ⟨ob, k b ob e (own b n).1 (own b n).2, .refl ob⟩, z⟩
  refine ⟨F, ⟨by rw [List.length_set, R.len], fun i ob q hi hq => ?_, R.apart, R.new, fun b ob e => ?_, R.sys, ?_⟩⟩
  · by_cases e : i = l
    · subst e
      rw [hl] at hq; cases hq
      have lt : i < H.length := by rw [R.len]; exact (List.getElem?_eq_some_iff.mp hl).1
      rw [List.getElem?_set_self lt] at hi
      cases hi; exact x
    · rw [List.getElem?_set_ne (fun q => e q.symm)] at hi
      refine (R.objs i ob q hi hq).step F.step fun b ob' hb eb => ?_
      obtain ⟨⟨a1, a2⟩, a3, a4⟩ := R.apart i l q p e hq hl
      rcases hb with rfl | rfl
      · exact k _ _ eb a1 a2
      · exact k _ _ eb a3 a4
  · have n := R.base_not e
    exact k b ob (R.base b ob e) (own b n).1 (own b n).2
  · obtain ⟨h, t, rfl⟩ := R.rest
    exact ⟨h', tk, rfl⟩
end
end Mine

-- part MSim
namespace Mine
open PySem

/-! ## ambient facts -/
structure Amb where
  P : Rho → Heap → Prop
  st : ∀ ρ h ρ' h', P ρ h → Full ρ h ρ' h' → P ρ' h'
noncomputable def Amb.and (P Q : Amb) : Amb := ⟨fun ρ h => P.P ρ h ∧ Q.P ρ h, fun ρ h ρ' h' x f => ⟨P.st _ _ _ _ x.1 f, Q.st _ _ _ _ x.2 f⟩⟩
noncomputable def Amb.prop (p : Prop) : Amb := ⟨fun _ _ => p, fun _ _ _ _ x _ => x⟩
noncomputable def Amb.vr (cx : Cx) (m : Val) (v : Value) : Amb := ⟨fun ρ h => VR cx ρ h m v, fun _ _ _ _ x f => x.step f.step⟩
noncomputable def Amb.vrs (cx : Cx) (ms : List Val) (vs : List Value) : Amb := ⟨fun ρ h => VRs cx ρ h ms vs, fun _ _ _ _ x f => x.step f.step⟩

/- an exception of the class numbered c that was made behind h -/
structure Flying (cx : Cx) (ρ : Rho) (h h' : Heap) (c : Nat) (e : Value) : Prop where
  is : ∃ (a C : Addr) (vs : Array Value), e = .ref a ∧ cx.cls[c]? = some (.ref C) ∧ h.get? a = none ∧ h'.get? a = some { cls := .ref C, dict := none, data := .fields vs, slots := #[] } ∧ vs.size = 6 ∧ ¬ Owned ρ a ∧
    (vs[1]? = some .none ∨ ∃ (tb : Addr) (tvs : Array Value), vs[1]? = some (.ref tb) ∧ h.get? tb = none ∧ h'.get? tb = some { cls := .type "traceback", dict := none, data := .fields tvs, slots := #[] } ∧ tvs.size = 11)
theorem Flying.older {cx : Cx} {ρ : Rho} {h₁ h h' : Heap} {c : Nat} {e : Value} (x : Flying cx ρ h h' c e) (z : Live h₁ h) : Flying cx ρ h₁ h' c e := by
  obtain ⟨a, C, vs, e1, e2, e3, e4, e5, e6, e7⟩ := x.is
  refine ⟨a, C, vs, e1, e2, z.none e3, e4, e5, e6, ?_⟩
  rcases e7 with e7 | ⟨tb, tvs, f1, f2, f3⟩
  · exact .inl e7
  · exact .inr ⟨tb, tvs, f1, z.none f2, f3⟩

noncomputable def SimAt {α β : Type} (cx : Cx) (A : Around) (r : Res β) (t : Sem α) (V : β → α → Amb) (ρ : Rho) (s : Shared) : Prop :=
  match r with
  | .bad => True
  | .ok b H' => wpAny (model cx.prog cx.w) A t (fun a s' => ∃ ρ', Full ρ s.heap ρ' s'.heap ∧ Rel cx H' ρ' s' ∧ (V b a).P ρ' s'.heap) (fun _ _ => False) s
  | .exc c H' => wpAny (model cx.prog cx.w) A t (fun _ _ => False) (fun e s' => ∃ ρ', Full ρ s.heap ρ' s'.heap ∧ Rel cx H' ρ' s' ∧ Flying cx ρ' s.heap s'.heap c e) s

noncomputable def Sim {α β : Type} (cx : Cx) (A : Around) (P : Amb) (t : Sem α) (m : M β) (V : β → α → Amb) : Prop :=
  ∀ (H : Hp) (ρ : Rho) (s : Shared), Rel cx H ρ s → P.P ρ s.heap → SimAt cx A (m H) t V ρ s

section
variable {α β γ δ : Type} {cx : Cx} {A : Around} {P : Amb} {t : Sem α} {m : M β} {V : β → α → Amb}

theorem SimAt.bind {f : α → Sem γ} {g : β → M δ} {W : δ → γ → Amb} {ρ : Rho} {s : Shared} {H : Hp} (x : SimAt cx A (m H) t V ρ s)
    (y : ∀ b a H' ρ' s', m H = .ok b H' → Full ρ s.heap ρ' s'.heap → Rel cx H' ρ' s' → (V b a).P ρ' s'.heap → SimAt cx A (g b H') (f a) W ρ' s') :
    SimAt cx A (m.bnd g H) (t >>= f) W ρ s := by
  cases e : m H with
  | bad => rw [bnd_bad e]; trivial
  | exc c H' =>
    rw [bnd_exc e]
    rw [e] at x
    exact wpAny_bind (wpAny_mono x (fun _ _ q => q.elim) fun _ _ q => q)
  | ok b H' =>
    rw [bnd_ok e]
    rw [e] at x
    have y' := y b
    cases e2 : g b H' with
    | bad => trivial
    | exc c H'' =>
      refine wpAny_bind (wpAny_mono x (fun a s' ⟨ρ', F, R, v⟩ => ?_) fun _ _ q => q.elim)
      have z := y b a H' ρ' s' e F R v
      rw [e2] at z
      exact wpAny_mono z (fun _ _ q => q) fun e s'' ⟨ρ'', F', R', fl⟩ => ⟨ρ'', F.trans F', R', fl.older F.live⟩
    | ok d H'' =>
      refine wpAny_bind (wpAny_mono x (fun a s' ⟨ρ', F, R, v⟩ => ?_) fun _ _ q => q.elim)
      have z := y b a H' ρ' s' e F R v
      rw [e2] at z
      exact wpAny_mono z (fun a' s'' ⟨ρ'', F', R', w⟩ => ⟨ρ'', F.trans F', R', w⟩) fun _ _ q => q.elim

theorem Sim.bind {f : α → Sem γ} {g : β → M δ} {W : δ → γ → Amb} (x : Sim cx A P t m V) (y : ∀ b a, Sim cx A (P.and (V b a)) (f a) (g b) W) : Sim cx A P (t >>= f) (m.bnd g) W :=
  fun H ρ s R p => SimAt.bind (x H ρ s R p) fun b a H' ρ' s' _ F R' v => y b a H' ρ' s' R' ⟨P.st _ _ _ _ p F, v⟩

/- the rest, as a transformer -/
noncomputable def SimK {α β : Type} (cx : Cx) (r : Res β) (K : (α → Shared → Prop) → (Value → Shared → Prop) → Shared → Prop) (V : β → α → Amb) (ρ : Rho) (s : Shared) : Prop :=
  match r with
  | .bad => True
  | .ok b H' => K (fun a s' => ∃ ρ', Full ρ s.heap ρ' s'.heap ∧ Rel cx H' ρ' s' ∧ (V b a).P ρ' s'.heap) (fun _ _ => False) s
  | .exc c H' => K (fun _ _ => False) (fun e s' => ∃ ρ', Full ρ s.heap ρ' s'.heap ∧ Rel cx H' ρ' s' ∧ Flying cx ρ' s.heap s'.heap c e) s
theorem SimK.of {r : Res β} {ρ : Rho} {s : Shared} (x : SimAt cx A r t V ρ s) : SimK cx r (fun Q E s => wpAny (model cx.prog cx.w) A t Q E s) V ρ s := x
noncomputable def MonoK {α : Type} (K : (α → Shared → Prop) → (Value → Shared → Prop) → Shared → Prop) : Prop :=
  ∀ Q E Q' E' s, K Q E s → (∀ a s, Q a s → Q' a s) → (∀ e s, E e s → E' e s) → K Q' E' s
theorem SimAt.bindK {g : β → M δ} {W : δ → γ → Amb} {ρ : Rho} {s : Shared} {H : Hp} {K : α → (γ → Shared → Prop) → (Value → Shared → Prop) → Shared → Prop} {K' : (γ → Shared → Prop) → (Value → Shared → Prop) → Shared → Prop} (x : SimAt cx A (m H) t V ρ s)
    (y : ∀ b a H' ρ' s', m H = .ok b H' → Full ρ s.heap ρ' s'.heap → Rel cx H' ρ' s' → (V b a).P ρ' s'.heap → SimK cx (g b H') (K a) W ρ' s')
    (mk : ∀ a, MonoK (K a))
    (k : ∀ Q E, wpAny (model cx.prog cx.w) A t (fun a s' => K a Q E s') E s → K' Q E s) :
    SimK cx (m.bnd g H) K' W ρ s := by
  cases e : m H with
  | bad => rw [bnd_bad e]; trivial
  | exc c H' =>
    rw [bnd_exc e]
    rw [e] at x
    exact k _ _ (wpAny_mono x (fun _ _ q => q.elim) fun _ _ q => q)
  | ok b H' =>
    rw [bnd_ok e]
    rw [e] at x
    cases e2 : g b H' with
    | bad => trivial
    | exc c H'' =>
      refine k _ _ (wpAny_mono x (fun a s' ⟨ρ', F, R, v⟩ => ?_) fun _ _ q => q.elim)
      have z := y b a H' ρ' s' e F R v
      rw [e2] at z
      exact mk a _ _ _ _ _ z (fun _ _ q => q) fun e s'' ⟨ρ'', F', R', fl⟩ => ⟨ρ'', F.trans F', R', fl.older F.live⟩
    | ok d H'' =>
      refine k _ _ (wpAny_mono x (fun a s' ⟨ρ', F, R, v⟩ => ?_) fun _ _ q => q.elim)
      have z := y b a H' ρ' s' e F R v
      rw [e2] at z
      exact mk a _ _ _ _ _ z (fun a' s'' ⟨ρ'', F', R', w⟩ => ⟨ρ'', F.trans F', R', w⟩) fun _ _ q => q.elim
theorem SimK.lookK {ρ : Rho} {s : Shared} {H : Hp} {f : Hp → Option β} {g : β → M δ} {W : δ → γ → Amb} {K : (γ → Shared → Prop) → (Value → Shared → Prop) → Shared → Prop} (y : ∀ b, f H = some b → SimK cx (g b H) K W ρ s) : SimK cx ((M.look f).bnd g H) K W ρ s := by
  cases e : f H with
  | none => rw [bnd_bad (show M.look f H = .bad by unfold M.look; rw [e])]; trivial
  | some b => rw [bnd_ok (show M.look f H = .ok b H by unfold M.look; rw [e])]; exact y b e
theorem SimK.mono {r : Res β} {ρ : Rho} {s : Shared} {K K' : (α → Shared → Prop) → (Value → Shared → Prop) → Shared → Prop} (x : SimK cx r K V ρ s) (k : ∀ Q E, K Q E s → K' Q E s) : SimK cx r K' V ρ s := by
  cases r with
  | bad => trivial
  | exc c H' => exact k _ _ x
  | ok b H' => exact k _ _ x

theorem Sim.pre {t' : Sem α} (x : Sim cx A P t m V) (k : ∀ (Q : α → Shared → Prop) (E : Value → Shared → Prop) (s : Shared), wpAny (model cx.prog cx.w) A t Q E s → wpAny (model cx.prog cx.w) A t' Q E s) : Sim cx A P t' m V := by
  intro H ρ s R p
  have z := x H ρ s R p
  cases e : m H with
  | bad => trivial
  | exc c H' => rw [e] at z; exact k _ _ _ z
  | ok b H' => rw [e] at z; exact k _ _ _ z
theorem Sim.holding {vs : List Value} (x : Sim cx A P t m V) : Sim cx A P (holding vs t) m V := x.pre fun _ _ _ h => wpAny_holding h
theorem Sim.stand {pos : Pos} {k : Unit → Sem α} (x : Sim cx A P (k ()) m V) : Sim cx A P (standAt pos >>= k) m V := x.pre fun _ _ _ h => wpAny_bind (wpAny_standAt h)
theorem Sim.weak {P' : Amb} (x : Sim cx A P t m V) (k : ∀ ρ h, P'.P ρ h → P.P ρ h) : Sim cx A P' t m V := fun H ρ s R p => x H ρ s R (k _ _ p)
theorem Sim.ret {a : α} {b : β} (k : ∀ ρ h, P.P ρ h → (V b a).P ρ h) : Sim cx A P (pure a) (M.ret b) V :=
  fun H ρ s R p => wpAny_pure ⟨ρ, Full.refl _ _, R, k _ _ p⟩
theorem Sim.bad : Sim cx A P t (M.bad : M β) V := fun _ _ _ _ _ => trivial
/- a step that only looks; the answer is a value -/
theorem Sim.look {f : Hp → Option β} (k : ∀ (H : Hp) (ρ : Rho) (s : Shared) (b : β), Rel cx H ρ s → P.P ρ s.heap → f H = some b →
    ∀ (Q : α → Shared → Prop) (E : Value → Shared → Prop), (∀ a tk, (V b a).P ρ s.heap → Q a { s with toks := tk }) → wpAny (model cx.prog cx.w) A t Q E s) : Sim cx A P t (M.look f) V := by
  intro H ρ s R p
  show SimAt cx A (match f H with | some a => Res.ok a H | none => Res.bad) t V ρ s
  cases e : f H with
  | none => trivial
  | some b => exact k H ρ s b R p e _ _ fun a tk v => ⟨ρ, Full.refl _ _, R.toks tk, v⟩
end

/-! ## the frame -/
noncomputable def VarIs (env : Env) (h : Heap) (y : Str) (v : Value) : Prop :=
  (env.kindOf y = some .local ∧ ∃ m, h.Ns env.locals m ∧ m y = some v) ∨
  ((env.kindOf y = some .cell ∨ env.kindOf y = some .free) ∧ ∃ c, env.cells.lookup y = some c ∧ h.IsCell c (some v))
noncomputable def KindOk : NameKind → Option NameKind → Prop
  | .local, k => k = some .local
  | .cell, k => k = some .cell
  | .free, k => k = some .free ∨ k = some .cell
  | .globalImplicit, k => k = some .globalImplicit
  | _, _ => True

/- what stands of a frame whatever its names hold -/
structure EnvSt (cx : Cx) (env : Env) (sc : Scope) (ρ : Rho) (h : Heap) : Prop where
  fn : env.scope.kind = .function
  glob : env.globals = mainGlobals
  blt : env.builtins = builtinsNs
  kinds : ∀ y k, sc.names.lookup y = some k → KindOk k (env.kindOf y)
  loc : ∃ m, h.Ns env.locals m
  locN : ¬ Owned ρ env.locals
  locB : cx.h₀.get? env.locals = none
  cells : ∀ y c, env.cells.lookup y = some c → (∃ v, h.IsCell c v) ∧ ¬ Owned ρ c ∧ cx.h₀.get? c = none
  hasCell : ∀ y, sc.names.lookup y = some .cell ∨ sc.names.lookup y = some .free → ∃ c, env.cells.lookup y = some c
  apart : ∀ y z c, env.cells.lookup y = some c → env.cells.lookup z = some c → y = z
structure EnvOk (cx : Cx) (env : Env) (sc : Scope) (ns : List (Option Str)) (Γ : Env') (ρ : Rho) (h : Heap) : Prop where
  st : EnvSt cx env sc ρ h
  len : Γ.length = ns.length
  vals : ∀ (i : Nat) (y : Str) (mv : Val), ns[i]? = some (some y) → Γ[i]? = some (some mv) → ∃ v, VarIs env h y v ∧ VR cx ρ h mv v

theorem Heap_Ns_keep {h h' : Heap} {a : Addr} {m : Str → Option Value} (n : h.Ns a m) (k : ∀ o, h.get? a = some o → ∃ o', h'.get? a = some o' ∧ o'.data = o.data) : h'.Ns a m := by
  obtain ⟨o, es, ep, e, d, r⟩ := n
  obtain ⟨o', e', d'⟩ := k o e
  exact ⟨o', es, ep, e', d'.trans d, r⟩
theorem Full.data {ρ ρ' : Rho} {h h' : Heap} (F : Full ρ h ρ' h') {a : Addr} (n : ¬ Owned ρ a) : ∀ o, h.get? a = some o → ∃ o', h'.get? a = some o' ∧ o'.data = o.data := fun o e => by
  obtain ⟨o', e', u⟩ := F.keep a o e n
  exact ⟨o', e', u.data⟩
theorem IsCell_keep {h h' : Heap} {c : Addr} {v : Option Value} (x : h.IsCell c v) (k : ∀ o, h.get? c = some o → ∃ o', h'.get? c = some o' ∧ o'.data = o.data) : h'.IsCell c v := by
  obtain ⟨o, e, d⟩ := x
  obtain ⟨o', e', d'⟩ := k o e
  exact ⟨o', e', d'.trans d⟩
theorem EnvSt.full {cx : Cx} {env : Env} {sc : Scope} {ρ ρ' : Rho} {h h' : Heap} (x : EnvSt cx env sc ρ h) (F : Full ρ h ρ' h') : EnvSt cx env sc ρ' h' := by
  obtain ⟨m, hm⟩ := x.loc
  obtain ⟨o, es, ep, e, d, r⟩ := id hm
  refine ⟨x.fn, x.glob, x.blt, x.kinds, ⟨m, Heap_Ns_keep hm (F.data x.locN)⟩, F.grow.not x.locN e, x.locB, fun y c hc => ?_, x.hasCell, x.apart⟩
  obtain ⟨⟨v, hv⟩, n, b⟩ := x.cells y c hc
  obtain ⟨o, e, _⟩ := id hv
  exact ⟨⟨v, IsCell_keep hv (F.data n)⟩, F.grow.not n e, b⟩
theorem VarIs.full {cx : Cx} {env : Env} {sc : Scope} {ρ ρ' : Rho} {h h' : Heap} {y : Str} {v : Value} (x : EnvSt cx env sc ρ h) (F : Full ρ h ρ' h') (q : VarIs env h y v) : VarIs env h' y v := by
  rcases q with ⟨k, m, hm, e⟩ | ⟨k, c, hc, e⟩
  · exact .inl ⟨k, m, Heap_Ns_keep hm (F.data x.locN), e⟩
  · exact .inr ⟨k, c, hc, IsCell_keep e (F.data (x.cells y c hc).2.1)⟩
theorem EnvOk.full {cx : Cx} {env : Env} {sc : Scope} {ns : List (Option Str)} {Γ : Env'} {ρ ρ' : Rho} {h h' : Heap} (x : EnvOk cx env sc ns Γ ρ h) (F : Full ρ h ρ' h') : EnvOk cx env sc ns Γ ρ' h' :=
  ⟨x.st.full F, x.len, fun i y mv hi hm => by
    obtain ⟨v, hv, r⟩ := x.vals i y mv hi hm
    exact ⟨v, hv.full x.st F, r.step F.step⟩⟩
noncomputable def Amb.env (cx : Cx) (env : Env) (sc : Scope) (ns : List (Option Str)) (Γ : Env') : Amb := ⟨fun ρ h => EnvOk cx env sc ns Γ ρ h, fun _ _ _ _ x F => x.full F⟩

/- the frames on the stack, for the notes that an exception makes -/
noncomputable def FramesOk (cx : Cx) (l : List Env) (ρ : Rho) (h : Heap) : Prop :=
  ∀ env ∈ l, env.scope.kind ≠ .module ∧ ∃ L o, env.frame = some L ∧ cx.h₀.get? L = none ∧ h.get? L = some o ∧ (∃ es n, o.data = .dict es n) ∧ ¬ Owned ρ L
theorem FramesOk.full {cx : Cx} {l : List Env} {ρ ρ' : Rho} {h h' : Heap} (x : FramesOk cx l ρ h) (F : Full ρ h ρ' h') : FramesOk cx l ρ' h' := fun env he => by
  obtain ⟨k, L, o, h1, h2, h3, h5, h6⟩ := x env he
  obtain ⟨o', e', u⟩ := F.keep L o h3 h6
  exact ⟨k, L, o', h1, h2, e', by rw [u.data]; exact h5, F.grow.not h6 h3⟩
noncomputable def Amb.frames (cx : Cx) (l : List Env) : Amb := ⟨fun ρ h => FramesOk cx l ρ h, fun _ _ _ _ x F => x.full F⟩

/- room for calls d deep -/
structure Room (A : Around) (d : Nat) : Prop where
  hh : A.handled = none
  depth : A.depth + 5 * d + 150 < recursionLimit
  units : A.units + 20 * d + 100 < cLine
/- room for a call -/
structure RoomF (A : Around) (d : Nat) : Prop where
  hh : A.handled = none
  depth : A.depth + 5 * d + 147 < recursionLimit
  units : A.units + 20 * d + 90 < cLine
theorem Room.toF {A : Around} {d : Nat} (r : Room A d) : RoomF A d := ⟨r.hh, by have := r.depth; omega, by have := r.units; omega⟩
theorem Room.in1 {A : Around} {d : Nat} (r : Room A (d + 1)) : Room A.in1 d := ⟨r.hh, by have := r.depth; simp only [Around.in1_depth]; omega, by have := r.units; simp only [Around.in1_units]; omega⟩

end Mine

-- part MCk
namespace Mine
open PySem

/- the built-ins that are called by their names -/
noncomputable def bltTab : List (Str × Value) := [("len", .builtin "len"), ("range", .type "range"), ("isinstance", .builtin "isinstance"), ("list", .type "list"), ("tuple", .type "tuple"), ("int", .type "int"), ("bool", .type "bool"), ("str", .type "str"),
  ("zip", .type "zip"), ("enumerate", .type "enumerate"), ("sorted", .builtin "sorted"), ("min", .builtin "min"), ("max", .builtin "max"), ("abs", .builtin "abs"), ("set", .type "set")]
structure Names where
  funs : List (Str × Nat)
  clss : List (Str × Nat)
  globs : List (Str × Nat)
  attrs : List (Str × Nat)
  meths : List (Str × Nat)

noncomputable def isGlob (sc : Scope) (x : Str) : Bool :=
  (match sc.names.lookup x with
   | some .globalImplicit => true
   | _ => false) && !(x == ("__debug__" : Str))
noncomputable def isVar (sc : Scope) (ns : List (Option Str)) (i : Nat) (x : Str) : Bool :=
  (match sc.names.lookup x with
   | some .local => true
   | some .cell => true
   | some .free => true
   | _ => false) && (match ns[i]? with
   | some (some y) => decide (y = x)
   | _ => false) && !(x == ("__debug__" : Str)) && !(x == ("__classdict__" : Str))
/- a name that may be stored -/
noncomputable def isOwn (sc : Scope) (ns : List (Option Str)) (i : Nat) (x : Str) : Bool :=
  (match sc.names.lookup x with
   | some .local => true
   | some .cell => true
   | _ => false) && (match ns[i]? with
   | some (some y) => decide (y = x)
   | _ => false)
noncomputable def hasNo (l : List (Str × Nat)) (x : Str) (k : Nat) : Bool :=
  match l.lookup x with
  | some j => decide (j = k)
  | none => false

noncomputable def bOp : BOp → Operator
  | .add => .Add
  | .sub => .Sub
  | .mul => .Mult
  | .fdiv => .FloorDiv
  | .mod => .Mod
noncomputable def opOk (b : BOp) (o : Operator) : Bool := decide (bOp b = o)
noncomputable def cmOp : COp → CmpOp
  | .eq => .Eq
  | .ne => .NotEq
  | .lt => .Lt
  | .le => .LtE
  | .gt => .Gt
  | .is => .Is
  | .isNot => .IsNot
  | .isin => .In
  | .notin => .NotIn
noncomputable def notSuper : Expr → Bool
  | .Call (.Name x _) _ _ _ => !(x == ("super" : Str))
  | _ => true
noncomputable def notSet : Expr → Bool
  | .Set .. => false
  | _ => true
/- the built-in function's name and how many arguments it takes -/
noncomputable def bfName : BF → Str × Nat
  | .len => ("len", 1)
  | .range => ("range", 1)
  | .list => ("list", 1)
  | .max2 => ("max", 2)
  | .sortedSet => ("", 0)
noncomputable def bmName : BM → Str × Nat
  | .append => ("append", 1)
  | .pop => ("pop", 0)
  | .get => ("get", 1)
noncomputable def tyName : Ty → Str
  | .int => "int"
  | .bool => "bool"
  | .str => "str"
  | .tuple => "tuple"
  | .list => "list"
  | .cls _ => ""
/- what a comprehension's names are, seen from within -/
noncomputable def inner (csc : Scope) (ns : List (Option Str)) : List (Option Str) :=
  ns.map fun o => match o with
    | some y => (match csc.names.lookup y with
      | some .free => some y
      | _ => none)
    | none => none
noncomputable def compOk (sc csc : Scope) (x : Str) : Bool :=
  (match csc.kind with
   | .function => true
   | _ => false) &&
  (match csc.names.lookup x with
   | some .local => true
   | some .cell => true
   | _ => false) &&
  csc.names.all fun p =>
    (match p.2 with
     | .local => (match csc.names.lookup p.1 with | some .local => true | _ => false)
     | .cell => (match csc.names.lookup p.1 with | some .cell => true | _ => false)
     | .free => (match csc.names.lookup p.1 with | some .free => true | _ => false) && (match sc.names.lookup p.1 with
       | some .cell => true
       | some .free => true
       | _ => false)
     | .globalImplicit => (match csc.names.lookup p.1 with | some .globalImplicit => true | _ => false)
     | _ => false)

/-! forms of expressions, each with what it says -/
noncomputable def dConst (e : Expr) : Option { p : Const × Nat × Pos // e = .Constant p.1 p.2.1 p.2.2 } := match e with
  | .Constant c k pos => some ⟨(c, k, pos), rfl⟩
  | _ => none
noncomputable def dName (e : Expr) : Option { p : Str × Pos // e = .Name p.1 p.2 } := match e with
  | .Name x pos => some ⟨(x, pos), rfl⟩
  | _ => none
noncomputable def dBin (e : Expr) : Option { p : Expr × Operator × Expr × Pos // e = .BinOp p.1 p.2.1 p.2.2.1 p.2.2.2 } := match e with
  | .BinOp l o r pos => some ⟨(l, o, r, pos), rfl⟩
  | _ => none
noncomputable def dUn (e : Expr) : Option { p : UnaryOp × Expr × Pos // e = .UnaryOp p.1 p.2.1 p.2.2 } := match e with
  | .UnaryOp o x pos => some ⟨(o, x, pos), rfl⟩
  | _ => none
noncomputable def dBool (e : Expr) : Option { p : BoolOp × List Expr × Pos // e = .BoolOp p.1 p.2.1 p.2.2 } := match e with
  | .BoolOp o xs pos => some ⟨(o, xs, pos), rfl⟩
  | _ => none
noncomputable def dCmp (e : Expr) : Option { p : Expr × List CmpOp × List Expr × Pos // e = .Compare p.1 p.2.1 p.2.2.1 p.2.2.2 } := match e with
  | .Compare l os rs pos => some ⟨(l, os, rs, pos), rfl⟩
  | _ => none
noncomputable def dSub (e : Expr) : Option { p : Expr × Expr × Pos // e = .Subscript p.1 p.2.1 p.2.2 } := match e with
  | .Subscript v s pos => some ⟨(v, s, pos), rfl⟩
  | _ => none
noncomputable def dTup (e : Expr) : Option { p : List Expr × Nat × Pos // e = .Tuple p.1 p.2.1 p.2.2 } := match e with
  | .Tuple xs k pos => some ⟨(xs, k, pos), rfl⟩
  | _ => none
noncomputable def dList (e : Expr) : Option { p : List Expr × Pos // e = .List p.1 p.2 } := match e with
  | .List xs pos => some ⟨(xs, pos), rfl⟩
  | _ => none
noncomputable def dDict (e : Expr) : Option { p : List (Option Expr) × List Expr × Pos // e = .Dict p.1 p.2.1 p.2.2 } := match e with
  | .Dict ks vs pos => some ⟨(ks, vs, pos), rfl⟩
  | _ => none
noncomputable def dAttr (e : Expr) : Option { p : Expr × Str × Pos // e = .Attribute p.1 p.2.1 p.2.2 } := match e with
  | .Attribute v y pos => some ⟨(v, y, pos), rfl⟩
  | _ => none
noncomputable def dCall (e : Expr) : Option { p : Expr × List Expr × List Keyword × Pos // e = .Call p.1 p.2.1 p.2.2.1 p.2.2.2 } := match e with
  | .Call f xs ks pos => some ⟨(f, xs, ks, pos), rfl⟩
  | _ => none
noncomputable def dComp (e : Expr) : Option { p : Expr × List Comprehension × Scope × Pos // e = .ListComp p.1 p.2.1 p.2.2.1 p.2.2.2 } := match e with
  | .ListComp el gs csc pos => some ⟨(el, gs, csc, pos), rfl⟩
  | _ => none
noncomputable def cNone (c : Const) : Option { _p : Unit // c = .none } := match c with
  | .none => some ⟨(), rfl⟩
  | _ => none
noncomputable def cBool (c : Const) : Option { b : Bool // c = .bool b } := match c with
  | .bool b => some ⟨b, rfl⟩
  | _ => none
noncomputable def cInt (c : Const) : Option { b : Int // c = .int b } := match c with
  | .int b => some ⟨b, rfl⟩
  | _ => none
noncomputable def cStr (c : Const) : Option { b : Str // c = .str b } := match c with
  | .str b => some ⟨b, rfl⟩
  | _ => none
noncomputable def isUSub (o : UnaryOp) : Option { _p : Unit // o = .USub } := match o with
  | .USub => some ⟨(), rfl⟩
  | _ => none
noncomputable def isNotOp (o : UnaryOp) : Option { _p : Unit // o = .Not } := match o with
  | .Not => some ⟨(), rfl⟩
  | _ => none
noncomputable def isAnd (o : BoolOp) : Option { _p : Unit // o = .And } := match o with
  | .And => some ⟨(), rfl⟩
  | _ => none
noncomputable def isOr (o : BoolOp) : Option { _p : Unit // o = .Or } := match o with
  | .Or => some ⟨(), rfl⟩
  | _ => none
noncomputable def one {α : Type} (xs : List α) : Option { x : α // xs = [x] } := match xs with
  | [x] => some ⟨x, rfl⟩
  | _ => none
noncomputable def two {α : Type} (xs : List α) : Option { p : α × α // xs = [p.1, p.2] } := match xs with
  | [x, y] => some ⟨(x, y), rfl⟩
  | _ => none
noncomputable def more (xs : List Expr) : Option { p : Expr × Expr × List Expr // xs = p.1 :: p.2.1 :: p.2.2 } := match xs with
  | x :: y :: r => some ⟨(x, y, r), rfl⟩
  | _ => none
noncomputable def nilL {α : Type} (xs : List α) : Option { _p : Unit // xs = [] } := match xs with
  | [] => some ⟨(), rfl⟩
  | _ :: _ => none
noncomputable def noneO {α : Type} (o : Option α) : Option { _p : Unit // o = none } := match o with
  | none => some ⟨(), rfl⟩
  | some _ => none
/- a call of a name, no keywords -/
noncomputable def dCallN (e : Expr) : Option { p : Str × Pos × List Expr × Pos // e = .Call (.Name p.1 p.2.1) p.2.2.1 [] p.2.2.2 } := match dCall e with
  | some ⟨(f, xs, ks, pos), h⟩ => (match nilL ks, dName f with
    | some ⟨_, hk⟩, some ⟨(x, np), hn⟩ => some ⟨(x, np, xs, pos), h.trans (by dsimp only at hk hn ⊢; rw [hk, hn])⟩
    | _, _ => none)
  | none => none
/- a call of an attribute, no keywords, on one line -/
noncomputable def dCallA (e : Expr) : Option { p : Expr × Str × Pos × List Expr × Pos // e = .Call (.Attribute p.1 p.2.1 p.2.2.1) p.2.2.2.1 [] p.2.2.2.2 ∧ (p.2.2.1.endLine == p.2.2.2.2.line) = true } := match dCall e with
  | some ⟨(f, xs, ks, pos), h⟩ => (match nilL ks, dAttr f with
    | some ⟨_, hk⟩, some ⟨(o, y, apos), hn⟩ => if hl : (apos.endLine == pos.line) = true then some ⟨(o, y, apos, xs, pos), h.trans (by dsimp only at hk hn ⊢; rw [hk, hn]), hl⟩ else none
    | _, _ => none)
  | none => none
noncomputable def gen1 (gs : List Comprehension) : Option { p : Str × Pos × Expr × List Expr // gs = [⟨.Name p.1 p.2.1, p.2.2.1, p.2.2.2, 0⟩] } := match one gs with
  | some ⟨⟨t, i, ifs, as⟩, h⟩ => (match dName t with
    | some ⟨(x, px), hn⟩ => if ha : as = 0 then some ⟨(x, px, i, ifs), h.trans (by dsimp only at hn ⊢; rw [hn, ha])⟩ else none
    | none => none)
  | none => none
noncomputable def tyOk (N : Names) (y : Str) : Ty → Bool
  | .cls _ => false
  | t => decide (tyName t = y)

/- what is there, looked at -/
noncomputable def seen {α : Type} (o : Option α) (f : α → Bool) : Bool := match o with
  | some a => f a
  | none => false
theorem seen_of {α : Type} {o : Option α} {f : α → Bool} (h : seen o f = true) : ∃ a, f a = true := by
  cases o with
  | none => cases h
  | some a => exact ⟨a, h⟩
theorem said {P : Prop} {o : Option { _p : Unit // P }} (h : o.isSome = true) : P := by
  cases o with
  | none => cases h
  | some a => exact a.2
theorem an1 {a b : Bool} (h : (a && b) = true) : a = true := by
  cases a with
  | true => rfl
  | false => cases h
theorem an2 {a b : Bool} (h : (a && b) = true) : b = true := by
  cases a with
  | true => exact h
  | false => cases h
mutual
noncomputable def ck (N : Names) (sc : Scope) (ns : List (Option Str)) (m : ME) (e : Expr) : Bool :=
  match m with
  | .none => (seen (dConst e) fun p1 => (cNone p1.1.1).isSome)
  | .bool b => (seen (dConst e) fun p1 => (seen (cBool p1.1.1) fun p2 => b == p2.1))
  | .int i => (seen (dConst e) fun p1 => (seen (cInt p1.1.1) fun p2 => decide (i = p2.1)))
  | .glob k => (seen (dName e) fun p1 => isGlob sc p1.1.1 && hasNo N.globs p1.1.1 k)
  | .var i => (seen (dName e) fun p1 => isVar sc ns i p1.1.1)
  | .bin op a b => (seen (dBin e) fun p1 => opOk op p1.1.2.1 && ck N sc ns a p1.1.1 && ck N sc ns b p1.1.2.2.1)
  | .neg a => (seen (dUn e) fun p1 => (isUSub p1.1.1).isSome && ck N sc ns a p1.1.2.1)
  | .not a => (seen (dUn e) fun p1 => (isNotOp p1.1.1).isSome && ck N sc ns a p1.1.2.1)
  | .and a b => (seen (dBool e) fun p1 => (isAnd p1.1.1).isSome && (seen (more p1.1.2.1) fun p2 => ck N sc ns a p2.1.1 && (match p2.1.2.2 with
        | [] => ck N sc ns b p2.1.2.1
        | _ :: _ => ck N sc ns b (.BoolOp .And (p2.1.2.1 :: p2.1.2.2) p1.1.2.2))))
  | .or a b => (seen (dBool e) fun p1 => (isOr p1.1.1).isSome && (seen (more p1.1.2.1) fun p2 => ck N sc ns a p2.1.1 && (match p2.1.2.2 with
        | [] => ck N sc ns b p2.1.2.1
        | _ :: _ => ck N sc ns b (.BoolOp .Or (p2.1.2.1 :: p2.1.2.2) p1.1.2.2))))
  | .cmp op a b => (seen (dCmp e) fun p1 => decide (p1.1.2.1 = [cmOp op]) && (seen (one p1.1.2.2.1) fun p2 => ck N sc ns a p1.1.1 && ck N sc ns b p2.1 && notSet p2.1))
  | .cmp2 op1 op2 a b c => (seen (dCmp e) fun p1 => decide (p1.1.2.1 = [cmOp op1, cmOp op2]) && (seen (two p1.1.2.2.1) fun p2 => ck N sc ns a p1.1.1 && ck N sc ns b p2.1.1 && ck N sc ns c p2.1.2 && notSet p2.1.2))
  | .sub a i => (seen (dSub e) fun p1 => ck N sc ns a p1.1.1 && ck N sc ns i p1.1.2.1)
  | .tup es => (seen (dTup e) fun p1 => ckEs N sc ns es p1.1.1 && decide (p1.1.1.length ≤ 1000))
  | .list es => (seen (dList e) fun p1 => ckEs N sc ns es p1.1.1 && decide (p1.1.1.length ≤ 1000))
  | .dict => (seen (dDict e) fun p1 => p1.1.1.isEmpty && p1.1.2.1.isEmpty)
  | .attr a n => (seen (dAttr e) fun p1 => ck N sc ns a p1.1.1 && hasNo N.attrs p1.1.2.1 n && notSuper p1.1.1)
  | .call f es => (seen (dCallN e) fun p1 => isGlob sc p1.1.1 && hasNo N.funs p1.1.1 f && ckEs N sc ns es p1.1.2.2.1 && decide (p1.1.2.2.1.length ≤ 20))
  | .new c es => (seen (dCallN e) fun p1 => isGlob sc p1.1.1 && hasNo N.clss p1.1.1 c && ckEs N sc ns es p1.1.2.2.1 && decide (p1.1.2.2.1.length ≤ 20))
  | .umeth a m es => (seen (dCallA e) fun p1 => ck N sc ns a p1.1.1 && hasNo N.meths p1.1.2.1 m && ckEs N sc ns es p1.1.2.2.2.1 && decide (p1.1.2.2.2.1.length ≤ 20) && notSuper p1.1.1)
  | .bf f es => (seen (dCallN e) fun p1 => isGlob sc p1.1.1 && decide ((bfName f).1 = p1.1.1) && decide ((bfName f).2 = p1.1.2.2.1.length) && ckEs N sc ns es p1.1.2.2.1)
  | .bm a m es => (seen (dCallA e) fun p1 => ck N sc ns a p1.1.1 && decide ((bmName m).1 = p1.1.2.1) && decide ((bmName m).2 = p1.1.2.2.2.1.length) && ckEs N sc ns es p1.1.2.2.2.1 && notSuper p1.1.1)
  | .isinst a t => (seen (dCallN e) fun p1 => (seen (two p1.1.2.2.1) fun p2 => (seen (dName p2.1.2) fun p3 => isGlob sc p1.1.1 && decide (p1.1.1 = ("isinstance" : Str)) && isGlob sc p3.1.1 && ck N sc ns a p2.1.1 && tyOk N p3.1.1 t)))
  | .comp elt it cond => (seen (dComp e) fun p1 => (seen (gen1 p1.1.2.1) fun p2 => ck N sc ns it p2.1.2.2.1 && notSet p2.1.2.2.1 && compOk sc p1.1.2.2.1 p2.1.1 && ck N p1.1.2.2.1 (inner p1.1.2.2.1 ns ++ [some p2.1.1]) elt p1.1.1 && ckC N p1.1.2.2.1 (inner p1.1.2.2.1 ns ++ [some p2.1.1]) cond p2.1.2.2.2))
noncomputable def ckO (N : Names) (sc : Scope) (ns : List (Option Str)) : MEo → Option Expr → Bool
  | .none, none => true
  | .some e, some x => ck N sc ns e x
  | _, _ => false
noncomputable def ckC (N : Names) (sc : Scope) (ns : List (Option Str)) : MEo → List Expr → Bool
  | .none, [] => true
  | .some e, [x] => ck N sc ns e x
  | _, _ => false
noncomputable def ckEs (N : Names) (sc : Scope) (ns : List (Option Str)) : MEs → List Expr → Bool
  | .nil, [] => true
  | .cons e es, x :: xs => ck N sc ns e x && ckEs N sc ns es xs
  | _, _ => false
end

/-! forms of statements -/
noncomputable def asExpr (st : Stmt) : Option { p : Expr × Pos // st = .Expr p.1 p.2 } := match st with
  | .Expr x pos => some ⟨(x, pos), rfl⟩
  | _ => none
/- an assignment to one target -/
noncomputable def dAsg (st : Stmt) : Option { p : Expr × Expr × Pos // st = .Assign [p.1] p.2.1 p.2.2 } := match st with
  | .Assign ts x pos => (match one ts with
    | some ⟨t, h⟩ => some ⟨(t, x, pos), by dsimp only; rw [h]⟩
    | none => none)
  | _ => none
noncomputable def asName (st : Stmt) : Option { p : Str × Pos × Expr × Pos // st = .Assign [.Name p.1 p.2.1] p.2.2.1 p.2.2.2 } := match dAsg st with
  | some ⟨(t, x, pos), h⟩ => (match dName t with
    | some ⟨(y, py), hn⟩ => some ⟨(y, py, x, pos), h.trans (by dsimp only at hn ⊢; rw [hn])⟩
    | none => none)
  | none => none
noncomputable def asAttr (st : Stmt) : Option { p : Expr × Str × Pos × Expr × Pos // st = .Assign [.Attribute p.1 p.2.1 p.2.2.1] p.2.2.2.1 p.2.2.2.2 } := match dAsg st with
  | some ⟨(t, x, pos), h⟩ => (match dAttr t with
    | some ⟨(o, y, py), hn⟩ => some ⟨(o, y, py, x, pos), h.trans (by dsimp only at hn ⊢; rw [hn])⟩
    | none => none)
  | none => none
noncomputable def asItem (st : Stmt) : Option { p : Expr × Expr × Pos × Expr × Pos // st = .Assign [.Subscript p.1 p.2.1 p.2.2.1] p.2.2.2.1 p.2.2.2.2 } := match dAsg st with
  | some ⟨(t, x, pos), h⟩ => (match dSub t with
    | some ⟨(o, y, py), hn⟩ => some ⟨(o, y, py, x, pos), h.trans (by dsimp only at hn ⊢; rw [hn])⟩
    | none => none)
  | none => none
noncomputable def asRet (st : Stmt) : Option { p : Option Expr × Pos // st = .Return p.1 p.2 } := match st with
  | .Return x pos => some ⟨(x, pos), rfl⟩
  | _ => none
noncomputable def asIf (st : Stmt) : Option { p : Expr × List Stmt × List Stmt × Pos // st = .If p.1 p.2.1 p.2.2.1 p.2.2.2 } := match st with
  | .If x ts fs pos => some ⟨(x, ts, fs, pos), rfl⟩
  | _ => none
noncomputable def asWhile (st : Stmt) : Option { p : Expr × List Stmt × Pos // st = .While p.1 p.2.1 [] p.2.2 } := match st with
  | .While x ts fs pos => (match nilL fs with
    | some ⟨_, h⟩ => some ⟨(x, ts, pos), by dsimp only; rw [h]⟩
    | none => none)
  | _ => none
noncomputable def dFor (st : Stmt) : Option { p : Expr × Expr × List Stmt × Pos // st = .For p.1 p.2.1 p.2.2.1 [] p.2.2.2 } := match st with
  | .For t x ts fs pos => (match nilL fs with
    | some ⟨_, h⟩ => some ⟨(t, x, ts, pos), by dsimp only; rw [h]⟩
    | none => none)
  | _ => none
noncomputable def asFor1 (st : Stmt) : Option { p : Str × Pos × Expr × List Stmt × Pos // st = .For (.Name p.1 p.2.1) p.2.2.1 p.2.2.2.1 [] p.2.2.2.2 } := match dFor st with
  | some ⟨(t, x, ts, pos), h⟩ => (match dName t with
    | some ⟨(y, py), hn⟩ => some ⟨(y, py, x, ts, pos), h.trans (by dsimp only at hn ⊢; rw [hn])⟩
    | none => none)
  | none => none
noncomputable def asCall1 (e : Expr) : Option { p : Str × Pos × Expr × Pos // e = .Call (.Name p.1 p.2.1) [p.2.2.1] [] p.2.2.2 } := match dCallN e with
  | some ⟨(f, fp, xs, cp), h⟩ => (match one xs with
    | some ⟨x, h2⟩ => some ⟨(f, fp, x, cp), h.trans (by dsimp only; rw [h2])⟩
    | none => none)
  | none => none
noncomputable def asRaise (st : Stmt) : Option { p : Str × Pos × Str × Nat × Pos × Pos × Pos // st = .Raise (some (.Call (.Name p.1 p.2.1) [.Constant (.str p.2.2.1) p.2.2.2.1 p.2.2.2.2.1] [] p.2.2.2.2.2.1)) none p.2.2.2.2.2.2 } := match st with
  | .Raise (some e) o pos => (match noneO o, asCall1 e with
    | some ⟨_, h1⟩, some ⟨(f, fp, x, cp), h2⟩ => (match dConst x with
      | some ⟨(c, k, mp), h3⟩ => (match cStr c with
        | some ⟨m, h4⟩ => some ⟨(f, fp, m, k, mp, cp, pos), by dsimp only at h2 h3 ⊢; rw [h1, h2, h3, h4]⟩
        | none => none)
      | none => none)
    | _, _ => none)
  | _ => none
noncomputable def notComp : ME → Bool
  | .comp .. => false
  | _ => true

mutual
noncomputable def ckS (N : Names) (sc : Scope) (ns : List (Option Str)) (m : MS) (st : Stmt) : Bool :=
  match m with
  | .expr e => (seen (asExpr st) fun p1 => ck N sc ns e p1.1.1 && notComp e)
  | .assign i e => (seen (asName st) fun p1 => isOwn sc ns i p1.1.1 && ck N sc ns e p1.1.2.2.1)
  | .setattr o n e => (seen (asAttr st) fun p1 => ck N sc ns e p1.1.2.2.2.1 && ck N sc ns o p1.1.1 && hasNo N.attrs p1.1.2.1 n)
  | .setitem o i e => (seen (asItem st) fun p1 => ck N sc ns e p1.1.2.2.2.1 && ck N sc ns o p1.1.1 && ck N sc ns i p1.1.2.1)
  | .ret e => (seen (asRet st) fun p1 => ckO N sc ns e p1.1.1)
  | .ite c t f => (seen (asIf st) fun p1 => ck N sc ns c p1.1.1 && ckSs N sc ns t p1.1.2.1 && ckSs N sc ns f p1.1.2.2.1)
  | .loop c b => (seen (asWhile st) fun p1 => ck N sc ns c p1.1.1 && ckSs N sc ns b p1.1.2.1)
  | .each i it b => (seen (asFor1 st) fun p1 => isOwn sc ns i p1.1.1 && ck N sc ns it p1.1.2.2.1 && notSet p1.1.2.2.1 && ckSs N sc ns b p1.1.2.2.2.1)
  | .raise c msg => (seen (asRaise st) fun p1 => isGlob sc p1.1.1 && hasNo N.clss p1.1.1 c && decide (p1.1.2.2.1 = msg))
noncomputable def ckSs (N : Names) (sc : Scope) (ns : List (Option Str)) : MSs → List Stmt → Bool
  | .nil, [] => true
  | .cons s ss, x :: xs => ckS N sc ns s x && ckSs N sc ns ss xs
  | _, _ => false
end

/- a def's parameters, scope and body -/
noncomputable def nodupS : List (Option Str) → Bool
  | [] => true
  | none :: r => nodupS r
  | some x :: r => !(r.contains (some x)) && nodupS r
noncomputable def ckF (N : Names) (f : MFun) (ns : List Str) (params : Arguments) (body : List Stmt) (sc : Scope) : Bool :=
  decide (f.arity + f.nvars = ns.length) && decide (ns.take f.arity = params.args.map (·.arg)) && params.posonlyargs.isEmpty && params.vararg.isNone && params.kwonlyargs.isEmpty && params.kwarg.isNone && params.defaults.isEmpty && params.kw_defaults.isEmpty &&
  nodupS (ns.map some) && !sc.isCoroutine && !sc.isGenerator && (match sc.kind with | .function => true | _ => false) && ckSs N sc (ns.map some) f.body body &&
  (sc.names.all fun p => (match p.2 with
    | .local => (match sc.names.lookup p.1 with | some .local => true | _ => false)
    | .cell => (match sc.names.lookup p.1 with | some .cell => true | _ => false)
    | .globalImplicit => (match sc.names.lookup p.1 with | some .globalImplicit => true | _ => false)
    | _ => false)) &&
  (ns.take f.arity).all fun y => (match sc.names.lookup y with | some .local => true | some .cell => true | _ => false)
end Mine

-- part MOps
namespace Mine
open PySem

section
variable {α β : Type} {cx : Cx} {A : Around} {P : Amb} {H : Hp} {ρ : Rho} {s : Shared} {t : Sem α} {V : β → α → Amb}

theorem simAt_pure {b : β} (R : Rel cx H ρ s) (k : ∀ (Q : α → Shared → Prop) (E : Value → Shared → Prop), (∀ a tk, (V b a).P ρ s.heap → Q a { s with toks := tk }) → wpAny (model cx.prog cx.w) A t Q E s) : SimAt cx A (.ok b H) t V ρ s :=
  k _ _ fun a tk v => ⟨ρ, Full.refl _ _, R.toks tk, v⟩
/- a new list -/
theorem Rel.newList {xs : List Val} {vs : List Value} (tk : Nat) (R : Rel cx H ρ s) (r : VRs cx ρ s.heap xs vs) (z : xs.length ≤ sizeLine) :
    ∃ ρ', Full ρ s.heap ρ' (s.heap.push (listO vs 0)) ∧ Rel cx (H ++ [.list xs]) ρ' { s with heap := s.heap.push (listO vs 0), toks := tk } ∧ VR cx ρ' (s.heap.push (listO vs 0)) (.loc H.length) (.ref s.heap.objs.size) := by
  have kp : ∀ b o, s.heap.get? b = some o → (s.heap.push (listO vs 0)).get? b = some o := fun b o e => Heap.get?_push_of_some _ e
  obtain ⟨F, R'⟩ := R.alloc (tk := tk) (o := .list xs) (p := (s.heap.objs.size, s.heap.objs.size)) kp ⟨fresh_none _, fresh_none _⟩
    (.list (n := 0) (Heap.get?_push_size _ rfl) (r.step (Full.alloc kp ⟨fresh_none _, fresh_none _⟩).step) z)
  refine ⟨_, F, R', ?_⟩
  rw [R.len]
  exact VR.loc (p := (s.heap.objs.size, s.heap.objs.size)) (by rw [List.getElem?_append_right (Nat.le_refl _)]; simp)
theorem simAt_list {t : Sem Value} {xs : List Val} {vs : List Value} {tk : Nat} (R : Rel cx H ρ s) (r : VRs cx ρ s.heap xs vs) (z : xs.length ≤ sizeLine)
    (k : ∀ (Q : Value → Shared → Prop) (E : Value → Shared → Prop), Q (.ref s.heap.objs.size) { s with heap := s.heap.push (listO vs 0), toks := tk } → wpAny (model cx.prog cx.w) A t Q E s) :
    SimAt cx A (.ok (.loc H.length) (H ++ [.list xs])) t (Amb.vr cx) ρ s :=
  k _ _ (R.newList tk r z)
/- a new tuple -/
/- a list is turned -/
end

theorem sizeLine_lid : lid = sizeLine := by rw [sizeLine_eq]; rfl

section
variable {cx : Cx} {A : Around} {P : Amb} {a b : Val} {v w : Value}

theorem small_ok {x : Int} (h : small x = true) : Builtin.Int.intBits x ≤ 64 := by
  unfold small at h
  simp only [Bool.and_eq_true, decide_eq_true_eq] at h
  exact intBits_le_64 h.1 h.2

/- the list at a place of the mini heap -/
theorem Rel.listAt {H : Hp} {ρ : Rho} {s : Shared} (R : Rel cx H ρ s) {l : Nat} {xs : List Val} {p : Addr × Addr} (hH : H[l]? = some (.list xs)) (hρ : ρ[l]? = some p) :
    ∃ vs n, p.2 = p.1 ∧ s.heap.get? p.1 = some (listO vs n) ∧ VRs cx ρ s.heap xs vs ∧ xs.length ≤ sizeLine := by
  have := R.objs l _ p hH hρ
  generalize ho : HObj.list xs = o at this
  cases this with
  | list e r z => cases ho; exact ⟨_, _, rfl, e, r, z⟩
  | dict _ _ _ => cases ho
  | inst _ _ _ _ _ _ _ _ _ _ => cases ho
  | hid _ => cases ho

/-! what a value stands for, by its make -/
theorem VR.int_inv {ρ : Rho} {h : Heap} {i : Int} (x : VR cx ρ h (.int i) v) : ∃ t, v = .int i t := by cases x; exact ⟨_, rfl⟩
theorem VR.str_inv {ρ : Rho} {h : Heap} {i : Str} (x : VR cx ρ h (.str i) v) : ∃ t, v = .str i t ∧ i.length ≤ sizeLine := by cases x; exact ⟨_, rfl, by assumption⟩
theorem VR.none_inv {ρ : Rho} {h : Heap} (x : VR cx ρ h .none v) : v = .none := by cases x; rfl
theorem VR.loc_inv {ρ : Rho} {h : Heap} {l : Nat} (x : VR cx ρ h (.loc l) v) : ∃ p, ρ[l]? = some p ∧ v = .ref p.1 := by cases x; exact ⟨_, by assumption, rfl⟩

theorem VRs.nil_inv {ρ : Rho} {h : Heap} {vs : List Value} (x : VRs cx ρ h [] vs) : vs = [] := by cases x; rfl
theorem VRs.cons_inv {ρ : Rho} {h : Heap} {m : Val} {ms : List Val} {vs : List Value} (x : VRs cx ρ h (m :: ms) vs) : ∃ v vs', vs = v :: vs' ∧ VR cx ρ h m v ∧ VRs cx ρ h ms vs' := by cases x; exact ⟨_, _, rfl, by assumption, by assumption⟩
theorem VRs.one_inv {ρ : Rho} {h : Heap} {m : Val} {vs : List Value} (x : VRs cx ρ h [m] vs) : ∃ v, vs = [v] ∧ VR cx ρ h m v := by
  obtain ⟨v, vs', rfl, y, z⟩ := x.cons_inv
  exact ⟨v, by rw [z.nil_inv], y⟩
theorem VRs.two_inv {ρ : Rho} {h : Heap} {m n : Val} {vs : List Value} (x : VRs cx ρ h [m, n] vs) : ∃ v w, vs = [v, w] ∧ VR cx ρ h m v ∧ VR cx ρ h n w := by
  obtain ⟨v, vs', rfl, y, z⟩ := x.cons_inv
  obtain ⟨w, rfl, u⟩ := z.one_inv
  exact ⟨v, w, rfl, y, u⟩
theorem replicate_fold (v : Value) : ∀ (n : Nat) (acc : Array Value), List.foldl (fun (x1 x2 : Array Value) => x1 ++ x2) acc (List.replicate n #[v]) = acc ++ (List.replicate n v).toArray
  | 0, acc => by simp
  | n + 1, acc => by
    rw [List.replicate_succ, List.foldl_cons, replicate_fold v n]
    apply Array.toList_inj.mp
    simp [List.replicate_succ]
theorem wp_rep {s : Shared} {l : Addr} {u : Value} {k : Nat} {x : Int} {t : Tok} {Q : Value → Shared → Prop} {E : Value → Shared → Prop} (hl : s.heap.get? l = some (listO [u] k)) (h0 : 0 ≤ x) (h1 : x ≤ 1000)
    (h : Q (.ref s.heap.objs.size) { s with heap := s.heap.push (listO (List.replicate x.toNat u) 0) }) : wpAny (model cx.prog cx.w) A (binaryOp .Mult (.ref l) (.int x t)) Q E s := by
  refine wpAny_binaryOp_repeat_ref (T := "list") (U := "int") (by decide) ⟨_, hl, rfl⟩ (fun s' => typeIs_int s' x t) noFill_list_mul F.fills_int_mul F.slot_int_rmul repeat_list F.slot_int_index.lookup
    (call_meets F.slot_int_rmul (typeIs_int s x t) F.entry_int_rmul (F.args_int_rmul_2 _ _) (int___rmul___int_list x t l #[u] k)
      ⟨hl, rfl, ⟨_, hl, rfl⟩, call_meets F.slot_list_mul ⟨_, hl, rfl⟩ F.entry_list_mul (F.args_list_mul_2 _ _)
        (AutoListH.list___mul___list_int_3 l #[u] k x t (by simp [Builtin.List.listFitsIndex]; omega) (by have e1 : (#[u] : Array Value).size = 1 := rfl; rw [e1]; omega) (by have e1 : (#[u] : Array Value).size = 1 := rfl; rw [Builtin.List.listTooLong, e1]; simp [sizeLine]; omega))
        ⟨hl, ?_⟩⟩)
  have e : (if (#[u] : Array Value).isEmpty = true then 0 else x.toNat) = x.toNat := rfl
  rw [e, replicate_fold]
  simpa [listO] using h

set_option tactic.hygienic true in
theorem sim_bin {op : BOp} {o : Operator} (ho : opOk op o = true) (h1 : ∀ ρ h, P.P ρ h → VR cx ρ h a v) (h2 : ∀ ρ h, P.P ρ h → VR cx ρ h b w) : Sim cx A P (binaryOp o v w) (binV op a b) (Amb.vr cx) := by
  intro H ρ s R p
  have x1 := h1 _ _ p
  have x2 := h2 _ _ p
  clear h1 h2 p
  have ho' : bOp op = o := of_decide_eq_true ho
  subst ho'
  clear ho
  cases op with
  | add =>
    cases a with
    | int i =>
      cases b with
      | int j =>
        obtain ⟨_, rfl⟩ := x1.int_inv
        obtain ⟨_, rfl⟩ := x2.int_inv
        exact simAt_pure R fun Q E k => PyProof.Rows.add_int (k _ _ (.int _ _))
      | _ => trivial
    | str x =>
      cases b with
      | str y =>
        obtain ⟨_, rfl, _⟩ := x1.str_inv
        obtain ⟨_, rfl, _⟩ := x2.str_inv
        show SimAt cx A ((if x.length + y.length ≤ lid then M.ret (Val.str (x ++ y)) else M.bad) H) _ _ ρ s
        by_cases q : x.length + y.length ≤ lid
        · rw [if_pos q]
          rw [sizeLine_lid] at q
          exact simAt_pure R fun Q E k => PyProof.Rows.add_str (fun t' tk => k _ _ (.str _ _ (by rw [strLen_append]; exact q))) q
        · rw [if_neg q]; trivial
      | _ => trivial
    | loc l1 =>
      cases b with
      | loc l2 =>
        obtain ⟨p1, e1, rfl⟩ := x1.loc_inv
        obtain ⟨p2, e2, rfl⟩ := x2.loc_inv
        show SimAt cx A (match H[l1]?, H[l2]? with
          | some (.list xs), some (.list ys) => if xs.length + ys.length ≤ lid then M.alloc (.list (xs ++ ys)) H else .bad
          | _, _ => .bad) _ _ ρ s
        split
        · rename_i xs ys q1 q2
          obtain ⟨vs, n, _, g1, r1, _⟩ := R.listAt q1 e1
          obtain ⟨ws, m, _, g2, r2, _⟩ := R.listAt q2 e2
          by_cases q : xs.length + ys.length ≤ lid
          · rw [if_pos q]
            rw [sizeLine_lid] at q
            refine simAt_list (vs := vs ++ ws) (tk := s.toks) R (r1.append r2) (by rw [List.length_append]; exact q) fun Q E k => ?_
            refine PySem.P.add_list (items := vs.toArray) (items2 := ws.toArray) (n := n) (n2 := m) g1 g2 ?_ (by simp only [List.size_toArray]; rw [← r1.length, ← r2.length]; exact q)
            simpa [listO] using k
          · rw [if_neg q]; trivial
        · trivial
      | _ => trivial
    | _ => trivial
  | sub =>
    cases a with
    | int i =>
      cases b with
      | int j =>
        obtain ⟨_, rfl⟩ := x1.int_inv
        obtain ⟨_, rfl⟩ := x2.int_inv
        exact simAt_pure R fun Q E k => PyProof.Rows.sub_int (k _ _ (.int _ _))
      | _ => trivial
    | _ => trivial
  | mul =>
    cases a with
    | int i =>
      cases b with
      | int j =>
        obtain ⟨_, rfl⟩ := x1.int_inv
        obtain ⟨_, rfl⟩ := x2.int_inv
        show SimAt cx A ((if (small i || small j) = true then M.ret (Val.int (i * j)) else M.bad) H) _ _ ρ s
        by_cases q : (small i || small j) = true
        · rw [if_pos q]
          refine simAt_pure R fun Q E k => PyProof.Rows.mul_int (k _ _ (.int _ _)) ?_
          rcases (Bool.or_eq_true _ _).mp q with q | q
          · exact IntMulOk.of_left (small_ok q)
          · exact IntMulOk.of_right (small_ok q)
        · rw [if_neg q]; trivial
      | _ => trivial
    | loc l1 =>
      cases b with
      | int j =>
        obtain ⟨p1, e1, rfl⟩ := x1.loc_inv
        obtain ⟨_, rfl⟩ := x2.int_inv
        show SimAt cx A (match H[l1]? with
          | some (.list [v]) => if 0 ≤ j ∧ j ≤ 1000 then M.alloc (.list (List.replicate j.toNat v)) H else .bad
          | _ => .bad) _ _ ρ s
        split
        · rename_i y q1
          obtain ⟨vs, n, _, g1, r1, _⟩ := R.listAt q1 e1
          by_cases q : 0 ≤ j ∧ j ≤ 1000
          · rw [if_pos q]
            obtain ⟨u, rfl, r2⟩ := r1.one_inv
            refine simAt_list (vs := List.replicate _ u) (tk := s.toks) R (VRs.replicate r2 _) (by rw [List.length_replicate, sizeLine_eq]; omega) fun Q E k => ?_
            exact wp_rep g1 q.1 q.2 k
          · rw [if_neg q]; trivial
        · trivial
      | _ => trivial
    | _ => trivial
  | fdiv =>
    cases a with
    | int i =>
      cases b with
      | int j =>
        obtain ⟨_, rfl⟩ := x1.int_inv
        obtain ⟨_, rfl⟩ := x2.int_inv
        show SimAt cx A ((if j = 0 ∨ 1073741824 ≤ j.natAbs then M.bad else M.ret (Val.int (Int.fdiv i j))) H) _ _ ρ s
        by_cases q : j = 0 ∨ 1073741824 ≤ j.natAbs
        · rw [if_pos q]; trivial
        · rw [if_neg q]
          exact simAt_pure R fun Q E k => PyProof.Rows.floordiv_int (fun e => q (.inl e)) (k _ _ (.int _ _)) (.inl (PyProof.noPylong_small (by omega)))
      | _ => trivial
    | _ => trivial
  | mod =>
    cases a with
    | int i =>
      cases b with
      | int j =>
        obtain ⟨_, rfl⟩ := x1.int_inv
        obtain ⟨_, rfl⟩ := x2.int_inv
        show SimAt cx A ((if j = 0 then M.bad else M.ret (Val.int (Int.fmod i j))) H) _ _ ρ s
        by_cases q : j = 0
        · rw [if_pos q]; trivial
        · rw [if_neg q]
          exact simAt_pure R fun Q E k => PyProof.Rows.mod_int' q (k _ _ (.int _ _))
      | _ => trivial
    | _ => trivial
end
end Mine

-- part MExpr
namespace Mine
open PySem

structure FnOk (cx : Cx) (N : Names) (a : Addr) (f : MFun) : Prop where
  is : ∃ o fd body ns, cx.h₀.get? a = some o ∧ o.cls = .type "function" ∧ o.data = .func fd ∧ cx.h₀.CodeRec fd.code fd.qualname ∧ fd.body = .stmts body ∧ fd.closure = [] ∧ fd.globals = mainGlobals ∧ fd.builtins = builtinsNs ∧
    fd.defaults = .none ∧ fd.kwdefaults = .none ∧ ckF N f ns fd.params body fd.scope = true
/- a class of the text's own, as it lies on the heap -/
structure ClsOk (cx : Cx) (N : Names) (c : Nat) (C : Addr) : Prop where
  is : ∃ nm q Nn bs sn sub col dd k0 k1 k2 k3 k5 mN, cx.h₀.get? C = some (excClassObj nm q C Nn bs [.type "object"] true sn sub false col dd k0 k1 k2 k3 k5 "object.__new__") ∧ cx.h₀.Ns Nn mN ∧
    mN "__getattribute__" = none ∧ mN "__getattr__" = none ∧ mN "__setattr__" = none ∧
    (∀ (n : Nat) (y : Str), cx.attrs[n]? = some y → mN y = none ∧ typeLookup (.type "object") y = pure none) ∧
    (∀ (y : Str) (m k : Nat), N.meths.lookup y = some m → cx.T.meth c m = some k → ∃ fa o fd, cx.fns[k]? = some fa ∧ mN y = some (.ref fa) ∧ cx.h₀.get? fa = some o ∧ o.cls = .type "function" ∧ o.data = .func fd ∧ (∀ n : Nat, cx.attrs[n]? ≠ some y) ∧ ∃ r, typeLookup (.type "object") y = pure r)
structure ClsBase (cx : Cx) (N : Names) : Prop where
  attr : ∀ (y : Str) (n : Nat), N.attrs.lookup y = some n → cx.attrs[n]? = some y
  inj : ∀ (i j : Nat) (y : Str), cx.attrs[i]? = some y → cx.attrs[j]? = some y → i = j
  few : cx.attrs.length ≤ sizeLine
  init : N.meths.lookup ("__init__" : Str) = some 0
  ref : ∀ (c : Nat) (v : Value), cx.cls[c]? = some v → (cx.T.meth c 0).isSome = true → ∃ C, v = .ref C
  cls : ∀ (c : Nat) (C : Addr), cx.cls[c]? = some (.ref C) → (cx.T.meth c 0).isSome = true → ClsOk cx N c C
structure Base (cx : Cx) (N : Names) : Prop where
  ns : ∃ mg mb, cx.h₀.Ns mainGlobals mg ∧ cx.h₀.Ns builtinsNs mb ∧
    (∀ x k, N.funs.lookup x = some k → ∃ a, cx.fns[k]? = some a ∧ mg x = some (.ref a)) ∧
    (∀ x k, N.globs.lookup x = some k → ∃ v val, cx.T.globs[k]? = some v ∧ mg x = some val ∧ ∀ ρ h, VR cx ρ h v val) ∧
    (∀ x c, N.clss.lookup x = some c → ∃ C, cx.cls[c]? = some C ∧ (mg x = some C ∨ (mg x = none ∧ mb x = some C))) ∧
    (∀ p ∈ bltTab, mg p.1 = none ∧ mb p.1 = some p.2)
  lim : cx.h₀.NoLimit
  fns : ∀ (k : Nat) (a : Addr) (f : MFun), cx.fns[k]? = some a → cx.T.funs[k]? = some f → FnOk cx N a f
  cls : ClsBase cx N

set_option tactic.hygienic true in
theorem hasNo_eq {l : List (Str × Nat)} {x : Str} {k : Nat} (h : hasNo l x k = true) : l.lookup x = some k := by
  unfold hasNo at h
  split at h
  · rename_i j e
    rw [e, of_decide_eq_true h]
  · cases h
theorem isGlob_eq {sc : Scope} {x : Str} (h : isGlob sc x = true) : sc.names.lookup x = some .globalImplicit ∧ (x == ("__debug__" : Str)) = false := by
  unfold isGlob at h
  rw [Bool.and_eq_true] at h
  refine ⟨?_, by simpa using h.2⟩
  have := h.1
  split at this
  · assumption
  · cases this
set_option tactic.hygienic true in
theorem isVar_eq {sc : Scope} {ns : List (Option Str)} {i : Nat} {x : Str} (h : isVar sc ns i x = true) :
    (sc.names.lookup x = some .local ∨ sc.names.lookup x = some .cell ∨ sc.names.lookup x = some .free) ∧ ns[i]? = some (some x) ∧ (x == ("__debug__" : Str)) = false ∧ (x == ("__classdict__" : Str)) = false := by
  unfold isVar at h
  simp only [Bool.and_eq_true, Bool.not_eq_true'] at h
  obtain ⟨⟨⟨h1, h2⟩, h3⟩, h4⟩ := h
  refine ⟨?_, ?_, h3, h4⟩
  · split at h1 <;> simp_all
  · split at h2
    · rename_i y e; rw [e, of_decide_eq_true h2]
    · cases h2

section
variable {cx : Cx} {N : Names} {A : Around} {env : Env} {sc : Scope} {ns : List (Option Str)} {Γ : Env'}

theorem sim_var {i : Nat} {x : Str} {pos : Pos} (hv : isVar sc ns i x = true) (Φ : Funs) : Sim cx A (Amb.env cx env sc ns Γ) (eval (.Name x pos) env) (evalE cx.T Φ (.var i) Γ) (Amb.vr cx) := by
  obtain ⟨_, hn, hd, hc⟩ := isVar_eq hv
  intro H ρ s R p
  rw [ev_var]
  cases e : Γ[i]? with
  | none => trivial
  | some o =>
    cases o with
    | none => trivial
    | some mv =>
      obtain ⟨v, q, r⟩ := p.vals i x mv hn e
      refine simAt_pure R fun Q E k => ?_
      have k' := k v s.toks r
      rcases q with ⟨kd, m, hm, hv⟩ | ⟨kd, c, hc', hv⟩
      · exact wpAny_Name (wpAny_loadName_local p.st.fn kd hm hv k') hd
      · rcases kd with kd | kd
        · exact wpAny_Name (wpAny_loadName_cell p.st.fn kd hc' hv k') hd
        · exact wpAny_Name (wpAny_loadName_free p.st.fn kd hc' hv k' hc) hd

/- a global name -/
theorem wp_glob {ρ : Rho} {s : Shared} {H : Hp} {x : Str} {pos : Pos} {mg mb : Str → Option Value} {v : Value} {Q : Value → Shared → Prop} {E : Value → Shared → Prop} (R : Rel cx H ρ s) (p : EnvSt cx env sc ρ s.heap) (hg : isGlob sc x = true)
    (ng : cx.h₀.Ns mainGlobals mg) (nb : cx.h₀.Ns builtinsNs mb) (hv : mg x = some v ∨ (mg x = none ∧ mb x = some v)) (h : Q v s) : wpAny (model cx.prog cx.w) A (eval (.Name x pos) env) Q E s := by
  obtain ⟨h1, h2⟩ := isGlob_eq hg
  have kd : env.kindOf x = some .globalImplicit := p.kinds x _ h1
  have ng' : s.heap.Ns env.globals mg := by rw [p.glob]; exact ng.keeps R.base
  have nb' : s.heap.Ns env.builtins mb := by rw [p.blt]; exact nb.keeps R.base
  refine Calls.Name_function_global p.fn kd ?_ h2
  rcases hv with hv | ⟨h0, hv⟩
  · exact Calls.loadGlobal_global ng' hv h
  · exact Calls.loadGlobal_builtin ng' h0 nb' hv h
theorem sim_glob (B : Base cx N) {k : Nat} {x : Str} {pos : Pos} (hg : isGlob sc x = true) (hk : hasNo N.globs x k = true) (Φ : Funs) : Sim cx A (Amb.env cx env sc ns Γ) (eval (.Name x pos) env) (evalE cx.T Φ (.glob k) Γ) (Amb.vr cx) := by
  obtain ⟨mg, mb, ng, nb, _, q, _⟩ := B.ns
  obtain ⟨v, val, e1, e2, r⟩ := q x k (hasNo_eq hk)
  intro H ρ s R p
  rw [ev_glob, e1]
  exact simAt_pure R fun Q E k => wp_glob R p.st hg ng nb (.inl e2) (k _ s.toks (r _ _))

theorem sim_truthy {a : Val} {v : Value} {P : Amb} (h : ∀ ρ h, P.P ρ h → VR cx ρ h a v) : Sim cx A P (truthy v) (truth a) (fun b b' => Amb.prop (b' = b)) := by
  intro H ρ s R p
  have x := h _ _ p
  cases x with
  | bool b => exact simAt_pure R fun Q E k => wpAny_truthy_bool (k _ s.toks rfl)
  | _ => trivial
theorem sim_neg {a : Val} {v : Value} {P : Amb} (h : ∀ ρ h, P.P ρ h → VR cx ρ h a v) : Sim cx A P (unaryOp .USub v) (match a with | .int i => M.ret (Val.int (-i)) | _ => .bad) (Amb.vr cx) := by
  intro H ρ s R p
  have x := h _ _ p
  cases x with
  | int i t => exact simAt_pure R fun Q E k => PyProof.Rows.neg_int (k _ _ (.int _ _))
  | _ => trivial
theorem sim_not {a : Val} {v : Value} {P : Amb} (h : ∀ ρ h, P.P ρ h → VR cx ρ h a v) : Sim cx A P (unaryOp .Not v) ((truth a).bnd fun b => M.ret (Val.bool (!b))) (Amb.vr cx) := by
  intro H ρ s R p
  have x := h _ _ p
  cases x with
  | bool b => exact simAt_pure R fun Q E k => not_value (wpAny_truthy_bool (k _ s.toks (.bool _)))
  | _ => trivial
end
end Mine

-- part MCmp
namespace Mine
open PySem

/-! ## data -/
section
variable {cx : Cx} {H : Hp} {ρ : Rho} {s : Shared}
set_option tactic.hygienic true in
theorem reads_dats {n : Nat} {f : Val → Option PyData} (ih : ∀ {m : Val} {v : Value} {d : PyData}, VR cx ρ s.heap m v → f m = some d → (∃ as, Reads s.heap v d as) ∧ d.canLay0 = true ∧ d.depth ≤ n) :
    ∀ {xs : List Val} {vs : List Value} {ds : List PyData}, VRs cx ρ s.heap xs vs → dats f xs = some ds → (∃ as, ReadsAll s.heap vs ds as) ∧ PyData.canLayAll0 ds = true ∧ PyData.depthAll ds ≤ n := by
  intro xs
  induction xs with
  | nil =>
    intro vs ds r h
    cases r
    simp [dats] at h; subst h
    exact ⟨⟨_, .nil⟩, by simp [PyData.canLayAll0], by simp [PyData.depthAll]⟩
  | cons x xs hi =>
    intro vs ds r h
    cases r with
    | cons a r =>
      simp only [dats] at h
      split at h
      · rename_i d ds' e1 e2
        cases h
        obtain ⟨⟨as, h1⟩, h2, h3⟩ := ih a e1
        obtain ⟨⟨bs, g1⟩, g2, g3⟩ := hi r e2
        exact ⟨⟨_, .cons h1 g1⟩, by simp [PyData.canLayAll0, h2, g2], by simp only [PyData.depthAll]; omega⟩
      · cases h
theorem ite_some {α : Type} {p : Prop} [Decidable p] {x y : α} (h : (if p then some x else none) = some y) : p ∧ x = y := by
  by_cases q : p
  · rw [if_pos q] at h; exact ⟨q, Option.some.inj h⟩
  · rw [if_neg q] at h; cases h
set_option tactic.hygienic true in
theorem reads_data (R : Rel cx H ρ s) : ∀ (n : Nat) {m : Val} {v : Value} {d : PyData}, VR cx ρ s.heap m v → dataOf H n m = some d → (∃ as, Reads s.heap v d as) ∧ d.canLay0 = true ∧ d.depth ≤ n := by
  intro n
  induction n with
  | zero =>
    intro m v d x h
    cases x with
    | none => cases h; exact ⟨⟨_, .none⟩, rfl, Nat.zero_le _⟩
    | bool b => cases h; exact ⟨⟨_, .bool b⟩, rfl, Nat.zero_le _⟩
    | int i t => cases h; exact ⟨⟨_, .int i t⟩, rfl, Nat.zero_le _⟩
    | str y t z =>
      obtain ⟨h1, h2⟩ := ite_some h
      cases h2; exact ⟨⟨_, .str y t⟩, h1, Nat.zero_le _⟩
    | _ => cases h
  | succ n ih =>
    intro m v d x h
    cases x with
    | none => cases h; exact ⟨⟨_, .none⟩, rfl, Nat.zero_le _⟩
    | bool b => cases h; exact ⟨⟨_, .bool b⟩, rfl, Nat.zero_le _⟩
    | int i t => cases h; exact ⟨⟨_, .int i t⟩, rfl, Nat.zero_le _⟩
    | str y t z =>
      obtain ⟨h1, h2⟩ := ite_some h
      cases h2; exact ⟨⟨_, .str y t⟩, h1, Nat.zero_le _⟩
    | @tup a vs k ms e no z r =>
      obtain ⟨ds, h1, rfl⟩ := Option.map_eq_some_iff.mp h
      obtain ⟨⟨as, g1⟩, g2, g3⟩ := reads_dats (n := n) (fun x h => ih x h) r h1
      exact ⟨⟨_, .tuple e rfl rfl (by simpa using g1)⟩, g2, Nat.succ_le_succ g3⟩
    | @loc l p e =>
      have h : (match H[l]? with | some (.list vs) => (dats (dataOf H n) vs).map .list | _ => none) = some d := h
      split at h
      · rename_i xs hl
        obtain ⟨ds, h1, rfl⟩ := Option.map_eq_some_iff.mp h
        obtain ⟨vs, k, _, g, r, _⟩ := R.listAt hl e
        obtain ⟨⟨as, g1⟩, g2, g3⟩ := reads_dats (n := n) (fun x h => ih x h) r h1
        exact ⟨⟨_, .list g rfl rfl (by simpa using g1)⟩, g2, Nat.succ_le_succ g3⟩
      · cases h
    | _ => cases h
end

section
variable {cx : Cx} {A : Around} {P : Amb} {a b : Val} {v w : Value} {H : Hp} {ρ : Rho} {s : Shared}

theorem shaped_of {d : PyData} {n : Nat} (h : d.canLay0 = true) (k : d.depth ≤ n) (z : n ≤ 64 := by decide) : SeqAt.shaped d = true := by
  unfold SeqAt.shaped; rw [h, Bool.true_and]; exact decide_eq_true (Nat.le_trans k z)

/- == and != -/
set_option tactic.hygienic true in
theorem wp_eq (R : Rel cx H ρ s) (x : VR cx ρ s.heap a v) (y : VR cx ρ s.heap b w) {r : Bool} (e : pyEq H a b = some r) (hu : A.units + 100 < cLine) {Q : Value → Shared → Prop} {E : Value → Shared → Prop} (k : Q (.bool r) s) :
    wpAny (model cx.prog cx.w) A (compareOp .Eq v w) Q E s := by
  unfold pyEq at e
  split at e
  · rename_i d1 d2 e1 e2
    cases e
    obtain ⟨⟨as, g1⟩, g2, g3⟩ := reads_data R deep x e1
    obtain ⟨⟨bs, f1⟩, f2, f3⟩ := reads_data R deep y e2
    exact SeqAt.compareEq_shaped g1 f1 (shaped_of g2 g3) (shaped_of f2 f3) (by omega) k
  · cases e
set_option tactic.hygienic true in
theorem wp_ne (R : Rel cx H ρ s) (x : VR cx ρ s.heap a v) (y : VR cx ρ s.heap b w) {r : Bool} (e : pyEq H a b = some r) (hu : A.units + 100 < cLine) {Q : Value → Shared → Prop} {E : Value → Shared → Prop} (k : Q (.bool (!r)) s) :
    wpAny (model cx.prog cx.w) A (compareOp .NotEq v w) Q E s := by
  unfold pyEq at e
  split at e
  · rename_i d1 d2 e1 e2
    cases e
    obtain ⟨⟨as, g1⟩, g2, g3⟩ := reads_data R deep x e1
    obtain ⟨⟨bs, f1⟩, f2, f3⟩ := reads_data R deep y e2
    exact SeqAt.compareNe_shaped g1 f1 (shaped_of g2 g3) (shaped_of f2 f3) (by omega) k
  · cases e

theorem flip_some {o : Option Bool} {r : Bool} (h : flip true o = some r) : ∃ r', o = some r' ∧ r = !r' := by
  cases o with
  | none => simp [flip] at h
  | some b => refine ⟨b, rfl, ?_⟩; simp [flip] at h; rw [h]; simp

theorem isV_none_val {r : Bool} (x : VR cx ρ s.heap a v) (h : isV a .none = some r) : r = (v == .none) := by
  cases x <;> simp_all [isV]
set_option tactic.hygienic true in
theorem isV_bool_val {r y : Bool} (x : VR cx ρ s.heap a v) (h : isV a (.bool y) = some r) : plainIs v (.bool y) = true ∧ r = (v == .bool y) := by
  cases x <;> simp_all [isV, plainIs]
  rename_i b
  rw [← h]; cases b <;> cases y <;> rfl

theorem Rel.dictAt (R : Rel cx H ρ s) {l : Nat} {es : List (Key × Val)} {p : Addr × Addr} (hH : H[l]? = some (.dict es)) (hρ : ρ[l]? = some p) :
    ∃ xs, p.2 = p.1 ∧ s.heap.DictOfH (cellKind cx) p.1 xs ∧ DRs cx ρ s.heap es xs ∧ es.length ≤ sizeLine := by
  have := R.objs l _ p hH hρ
  generalize ho : HObj.dict es = o at this
  cases this with
  | list e r z => cases ho
  | dict d r z => cases ho; exact ⟨_, rfl, d, r, z⟩
  | inst _ _ _ _ _ _ _ _ _ _ => cases ho
  | hid _ => cases ho
theorem keyOf_eq {k : Key} (h : keyOf a = some k) : a = .tup [.int k.1, .int k.2] := by
  unfold keyOf at h
  split at h
  · cases h; rfl
  · cases h
theorem key_is {k : Key} (x : VR cx ρ s.heap a v) (h : keyOf a = some k) : ∃ b, v = .ref b ∧ (cellKind cx).is s.heap [k.1, k.2] b ∧ ¬ Owned ρ b := by
  rw [keyOf_eq h] at x
  cases x with
  | @tup b vs n ms e no z r =>
    refine ⟨b, rfl, ⟨_, vs.toArray, n, e, rfl, rfl, ?_⟩, no⟩
    cases r with
    | cons r1 r =>
      cases r with
      | cons r2 r =>
        cases r
        cases r1
        cases r2
        exact .cons (by simp [intKind, Value.isInt]) (.cons (by simp [intKind, Value.isInt]) .nil)
theorem DRs.atKey {es : List (Key × Val)} {xs : List (List Int × Addr × Value)} (r : DRs cx ρ s.heap es xs) (k : Key) :
    match dget es k, atKey xs [k.1, k.2] with
    | some m, some p => VR cx ρ s.heap m p.2
    | none, none => True
    | _, _ => False := by
  induction r with
  | nil => simp [dget, PySem.atKey]
  | @cons k' v' b x es xs a n _ ih =>
    by_cases q : k' = k
    · subst q
      simp [dget, PySem.atKey, a]
    · have q' : ¬ ([k'.1, k'.2] = [k.1, k.2]) := fun e => q (by
        simp only [List.cons.injEq, and_true] at e
        exact Prod.ext e.1 e.2)
      have q2 : (k == k') = false := by simpa using fun e : k = k' => q e.symm
      have e1 : dget ((k', v') :: es) k = dget es k := by simp [dget, List.lookup_cons, q2]
      have e2 : PySem.atKey (([k'.1, k'.2], b, x) :: xs) [k.1, k.2] = PySem.atKey xs [k.1, k.2] := by
        unfold PySem.atKey
        rw [List.find?_cons]
        simp only [decide_eq_false q']
      rw [e1, e2]
      exact ih
theorem DRs.isSome {es : List (Key × Val)} {xs : List (List Int × Addr × Value)} (r : DRs cx ρ s.heap es xs) (k : Key) : (PySem.atKey xs [k.1, k.2]).isSome = (dget es k).isSome := by
  have := r.atKey k
  cases h1 : dget es k <;> cases h2 : PySem.atKey xs [k.1, k.2] <;> simp_all
theorem not_sysModules (R : Rel cx H ρ s) {l : Nat} {p : Addr × Addr} (hρ : ρ[l]? = some p) : (p.1 == sysModules) = false := by
  obtain ⟨o, e⟩ := R.sys
  have := (R.new p (List.mem_of_getElem? hρ)).1
  simpa using fun w : p.1 = sysModules => by rw [w, e] at this; cases this

set_option tactic.hygienic true in
theorem wp_in (R : Rel cx H ρ s) (x : VR cx ρ s.heap a v) (y : VR cx ρ s.heap b w) {r : Bool} (e : inV a b H = some r) (hu : A.units + 100 < cLine) {Q : Value → Shared → Prop} {E : Value → Shared → Prop} (k : ∀ tk, Q (.bool r) { s with toks := tk }) :
    wpAny (model cx.prog cx.w) A (compareOp .In v w) Q E s := by
  cases y with
  | @loc l p hp =>
    simp only [inV] at e
    split at e
    · rename_i ys hl
      obtain ⟨vs, n, _, g, rr, _⟩ := R.listAt hl hp
      unfold inList at e
      split at e
      · rename_i d ds e1 e2
        cases e
        obtain ⟨⟨as, g1⟩, g2, g3⟩ := reads_data R deep x e1
        obtain ⟨⟨bs, f1⟩, f2, f3⟩ := reads_dats (n := deep) (fun x h => reads_data R deep x h) rr e2
        refine SeqAt.in_list_reads (.list g rfl rfl (by simpa using f1)) g1 f2 g2 ?_ (k s.toks)
        have := Nat.min_le_right (PyData.depthAll ds) d.depth
        have : deep = 6 := rfl
        omega
      · cases e
    · rename_i es hl
      split at e
      · rename_i kk ek
        cases e
        obtain ⟨xs, _, D, rr, _⟩ := R.dictAt hl hp
        obtain ⟨bb, rfl, hk, _⟩ := key_is x ek
        refine wpAny_in_heap (knd := cellKind cx) (tupleKind_room_in1 (by omega)) hk (not_sysModules R hp) D ?_
        rw [rr.isSome]; exact k _
      · cases e
    · cases e
  | str y t z =>
    cases x with
    | str x t' z' =>
      simp [inV] at e; subst e
      exact SB.contains (k s.toks)
    | _ => cases e
  | _ => cases e
set_option tactic.hygienic true in
theorem wp_notin (R : Rel cx H ρ s) (x : VR cx ρ s.heap a v) (y : VR cx ρ s.heap b w) {r : Bool} (e : inV a b H = some r) (hu : A.units + 100 < cLine) {Q : Value → Shared → Prop} {E : Value → Shared → Prop} (k : ∀ tk, Q (.bool (!r)) { s with toks := tk }) :
    wpAny (model cx.prog cx.w) A (compareOp .NotIn v w) Q E s := by
  cases y with
  | @loc l p hp =>
    simp only [inV] at e
    split at e
    · rename_i ys hl
      obtain ⟨vs, n, _, g, rr, _⟩ := R.listAt hl hp
      unfold inList at e
      split at e
      · rename_i d ds e1 e2
        cases e
        obtain ⟨⟨as, g1⟩, g2, g3⟩ := reads_data R deep x e1
        obtain ⟨⟨bs, f1⟩, f2, f3⟩ := reads_dats (n := deep) (fun x h => reads_data R deep x h) rr e2
        refine SeqAt.notIn_list_reads (.list g rfl rfl (by simpa using f1)) g1 f2 g2 ?_ (k s.toks)
        have := Nat.min_le_right (PyData.depthAll ds) d.depth
        have : deep = 6 := rfl
        omega
      · cases e
    · rename_i es hl
      split at e
      · rename_i kk ek
        cases e
        obtain ⟨xs, _, D, rr, _⟩ := R.dictAt hl hp
        obtain ⟨bb, rfl, hk, _⟩ := key_is x ek
        refine PyProof.Rows.wpAny_notIn_heap (knd := cellKind cx) (tupleKind_room_in1 (by omega)) hk (not_sysModules R hp) D ?_
        rw [rr.isSome]; exact k _
      · cases e
    · cases e
  | str y t z =>
    cases x with
    | str x t' z' =>
      simp [inV] at e; subst e
      exact SB.notContains (k s.toks)
    | _ => cases e
  | _ => cases e

/-! ## data without a heap -/
set_option tactic.hygienic true in
theorem dats_mono {f g : Val → Option PyData} (h : ∀ m d, f m = some d → g m = some d) : ∀ {xs : List Val} {ds : List PyData}, dats f xs = some ds → dats g xs = some ds
  | [], ds, e => by simpa [dats] using e
  | x :: xs, ds, e => by
    simp only [dats] at e ⊢
    split at e
    · rename_i d ds' e1 e2
      cases e
      rw [h _ _ e1, dats_mono h e2]
    · cases e
theorem data_nil : ∀ (n : Nat) (m : Val) (d : PyData), dataOf [] n m = some d → dataOf H n m = some d
  | 0, m, d, e => by cases m <;> exact e
  | n + 1, m, d, e => by
    cases m with
    | tup vs =>
      obtain ⟨ds, e1, e2⟩ := Option.map_eq_some_iff.mp e
      exact Option.map_eq_some_iff.mpr ⟨ds, dats_mono (data_nil n) e1, e2⟩
    | loc l => cases e
    | _ => exact e
set_option tactic.hygienic true in
theorem eq_nil {r : Bool} (h : pyEq [] a b = some r) : pyEq H a b = some r := by
  unfold pyEq at h ⊢
  split at h
  · rename_i d1 d2 e1 e2
    rw [data_nil _ _ _ e1, data_nil _ _ _ e2]; exact h
  · cases h
theorem VR.tup_inv {h : Heap} {ms : List Val} (x : VR cx ρ h (.tup ms) v) : ∃ p vs n, v = .ref p ∧ h.get? p = some (tupO vs n) ∧ VRs cx ρ h ms vs := by cases x; exact ⟨_, _, _, rfl, by assumption, by assumption⟩
set_option tactic.hygienic true in
theorem wp_eqBool (R : Rel cx H ρ s) (x : VR cx ρ s.heap a v) (y : VR cx ρ s.heap b w) {r : Bool} (e : pyEq H a b = some r) (hu : A.units + 10 < cLine) {Q : Bool → Shared → Prop} {E : Value → Shared → Prop} (k : Q r s) :
    wpAny (model cx.prog cx.w) A (eqBool v w) Q E s := by
  unfold pyEq at e
  split at e
  · rename_i d1 d2 e1 e2
    cases e
    obtain ⟨⟨as, g1⟩, g2, g3⟩ := reads_data R deep x e1
    obtain ⟨⟨bs, f1⟩, f2, f3⟩ := reads_data R deep y e2
    refine SeqAt.eqBoolOverData _ _ _ _ _ _ _ _ _ _ _ _ g1 f1 g2 f2 ?_ k
    have := Nat.min_le_left d1.depth d2.depth
    have : deep = 6 := rfl
    omega
  · cases e
theorem lts_cons {e f : Val → Val → Option Bool} {x y : Val} {xs ys : List Val} {r : Bool} (h : lts e f (x :: xs) (y :: ys) = some r) : (e x y = some true ∧ lts e f xs ys = some r) ∨ (e x y = some false ∧ f x y = some r) := by
  unfold lts at h
  split at h
  · exact .inl ⟨by assumption, h⟩
  · exact .inr ⟨by assumption, h⟩
  · cases h
/- `<` of numbers, or of tuples of the same make -/
set_option tactic.hygienic true in
theorem wp_ltN (R : Rel cx H ρ s) : ∀ (n : Nat) (A : Around) (a b : Val) (v w : Value) (r : Bool) (Q : Value → Shared → Prop) (E : Value → Shared → Prop), VR cx ρ s.heap a v → VR cx ρ s.heap b w → pyLt n a b = some r → A.units + 20 + n < cLine → Q (.bool r) s → wpAny (model cx.prog cx.w) A (richCompare .Lt v w) Q E s
  | 0, _, _, _, _, _, _, _, _, _, _, h, _, _ => by cases h
  | n + 1, A, a, b, v, w, r, Q, E, x, y, h, hu, k => by
    unfold pyLt at h
    split at h
    · obtain ⟨t, rfl⟩ := x.int_inv
      obtain ⟨u, rfl⟩ := y.int_inv
      cases h
      exact PyProof.Rows.lt_int k
    · rename_i ms ks
      obtain ⟨p, vs, n1, rfl, g1, r1⟩ := x.tup_inv
      obtain ⟨q, ws, n2, rfl, g2, r2⟩ := y.tup_inv
      have T1 : s.TypeIs (.ref p) "tuple" := ⟨_, g1, rfl⟩
      have T2 : s.TypeIs (.ref q) "tuple" := ⟨_, g2, rfl⟩
      refine wpAny_richCompare_same_room (T := "tuple") T1 T2 F.slot_tuple_lt (wpAny_call_entry F.slot_tuple_lt T1 F.entry_tuple_lt ?_ (F.args_tuple_lt_2 _ _)) (by omega)
      have fin : ∀ (z : Bool), z = r → (∃ v, (Fin.done (.ret (.bool z)) : Fin) = .done (.ret v) ∧ v ≠ .notImplemented ∧ Q v s) := fun z e => ⟨.bool z, rfl, by simp, by rw [e]; exact k⟩
      show wpAny _ _ (isInstance (.ref q) (.type "tuple") >>= _) _ _ s
      refine wpAny_bind (wpAny_isInstance T2 isSubtype_tuple_tuple ?_)
      simp only [Bool.not_true, Bool.false_eq_true, if_false]
      refine wpAny_bind (wpAny_tupleItemsOf g1 rfl ?_)
      refine wpAny_bind (wpAny_tupleItemsOf g2 rfl ?_)
      refine wpAny_bind ?_
      refine wpAny_forIn_list _
        (fun rest z s' => z.1 = none ∧ s' = s ∧ ∃ ms' ks' vs' ws', rest = List.zip vs' ws' ∧ VRs cx ρ s.heap ms' vs' ∧ VRs cx ρ s.heap ks' ws' ∧ lts (pyEq []) (pyLt n) ms' ks' = some r ∧ decide (vs'.length < ws'.length) = decide (vs.toArray.size < ws.toArray.size))
        _ ?_ ?_ _ _ ⟨rfl, rfl, ms, ks, vs, ws, rfl, r1, r2, h, by simp⟩
      · rintro ⟨c, e⟩ rest z s' ⟨hz, hs', ms', ks', vs', ws', hzip, q1, q2, hl, hlen⟩
        rw [hs']
        clear hs' s'
        cases q1 with
        | nil => simp at hzip
        | cons a1 q1 =>
          cases q2 with
          | nil => simp at hzip
          | cons a2 q2 =>
            simp only [List.zip_cons_cons, List.cons.injEq, Prod.mk.injEq] at hzip
            obtain ⟨⟨rfl, rfl⟩, rfl⟩ := hzip
            rcases lts_cons hl with ⟨he, hl'⟩ | ⟨he, hl'⟩
            · refine wpAny_bind (wp_eqBool R a1 a2 (eq_nil he) (by simp only [Around.in1_units]; omega) ?_)
              simp only [Bool.not_true, Bool.false_eq_true, if_false]
              exact wpAny_pure ⟨rfl, rfl, _, _, _, _, rfl, q1, q2, hl', by simpa using hlen⟩
            · refine wpAny_bind (wp_eqBool R a1 a2 (eq_nil he) (by simp only [Around.in1_units]; omega) ?_)
              simp only [Bool.not_false, if_true]
              refine wpAny_bind (wpAny_rule ?_)
              refine wpAny_bind (wp_ltN R n A.in1 _ _ _ _ r _ _ a1 a2 hl' (by simp only [Around.in1_units]; omega) ?_)
              exact wpAny_bind (wpAny_pure (wpAny_pure (wpAny_pure (fin r rfl))))
      · rintro ⟨z1, z2⟩ s' ⟨hz, hs', ms', ks', vs', ws', hzip, q1, q2, hl, hlen⟩
        rw [hs']
        clear hs' s'
        simp only at hz
        subst hz
        refine wpAny_pure ?_
        refine fin _ ?_
        rw [← hlen]
        cases q1 with
        | nil =>
          cases q2 with
          | nil => simp [lts] at hl ⊢; exact hl
          | cons a2 q2 => simp [lts] at hl ⊢; exact hl
        | cons a1 q1 =>
          cases q2 with
          | nil => simp [lts] at hl ⊢; exact hl
          | cons a2 q2 => simp at hzip
    · cases h
theorem int2 {p : Int → Int → Bool} {r : Bool} (e : (match a, b with | .int x, .int y => some (p x y) | _, _ => none) = some r) : ∃ x y, a = .int x ∧ b = .int y ∧ r = p x y := by
  split at e
  · cases e; exact ⟨_, _, rfl, rfl, rfl⟩
  · cases e
theorem int_le {r : Bool} (e : cmpV .le a b H = some r) : ∃ x y, a = .int x ∧ b = .int y ∧ r = decide (x ≤ y) := int2 e
theorem int_gt {r : Bool} (e : cmpV .gt a b H = some r) : ∃ x y, a = .int x ∧ b = .int y ∧ r = decide (x > y) := int2 e
theorem sim_cmp (hu : A.units + 100 < cLine) {op : COp} (h1 : ∀ ρ h, P.P ρ h → VR cx ρ h a v) (h2 : ∀ ρ h, P.P ρ h → VR cx ρ h b w) :
    Sim cx A P (compareOp (cmOp op) v w) ((M.look (cmpV op a b)).bnd fun r => M.ret (Val.bool r)) (Amb.vr cx) := by
  intro H ρ s R p
  have x1 := h1 _ _ p
  have x2 := h2 _ _ p
  show SimAt cx A (M.bnd (M.look (cmpV op a b)) _ H) _ _ ρ s
  cases e : cmpV op a b H with
  | none => rw [bnd_bad (show M.look (cmpV op a b) H = .bad by unfold M.look; rw [e])]; trivial
  | some r =>
    rw [bnd_ok (show M.look (cmpV op a b) H = .ok r H by unfold M.look; rw [e])]
    refine simAt_pure R fun Q E k => ?_
    have k' : ∀ tk, Q (.bool r) { s with toks := tk } := fun tk => k _ tk (.bool r)
    cases op with
    | eq => exact wp_eq R x1 x2 e hu (k' s.toks)
    | ne =>
      obtain ⟨r', e', rfl⟩ := flip_some e
      exact wp_ne R x1 x2 e' hu (k' s.toks)
    | lt => exact wp_ltN R deep A a b v w r _ _ x1 x2 e (by show A.units + 20 + 6 < cLine; omega) (k' s.toks)
    | le =>
      obtain ⟨x, y, rfl, rfl, rfl⟩ := int_le e
      cases x1 with | int _ t1 => cases x2 with | int _ t2 => exact PyProof.Rows.le_int (k' s.toks)
    | gt =>
      obtain ⟨x, y, rfl, rfl, rfl⟩ := int_gt e
      cases x1 with | int _ t1 => cases x2 with | int _ t2 => exact PyProof.Rows.gt_int (k' s.toks)
    | is =>
      have e' : isV a b = some r := e
      cases x2 with
      | none => rw [isV_none_val x1 e'] at k'; exact is_none (k' s.toks)
      | bool y =>
        obtain ⟨q1, q2⟩ := isV_bool_val x1 e'
        rw [q2] at k'
        exact wpAny_is_plain q1 (k' s.toks)
      | _ => cases e'
    | isNot =>
      obtain ⟨r', e', rfl⟩ := flip_some (show flip true (isV a b) = some r from e)
      cases x2 with
      | none => rw [isV_none_val x1 e'] at k'; exact isNot_none (k' s.toks)
      | bool y =>
        obtain ⟨q1, q2⟩ := isV_bool_val x1 e'
        rw [q2] at k'
        exact wpAny_isNot_plain q1 (k' s.toks)
      | _ => cases e'
    | isin => exact wp_in R x1 x2 e hu k'
    | notin =>
      obtain ⟨r', e', rfl⟩ := flip_some (show flip true (inV a b H) = some r from e)
      exact wp_notin R x1 x2 e' hu k'
end
end Mine

-- part MSub
namespace Mine
open PySem PyProof.Rows

theorem subscripted_any (slice : Expr) (o i : Value) : ∃ ops, subscripted slice false o i = operate ops (getItem o i) := by
  unfold subscripted
  split
  · exact ⟨_, rfl⟩
  · exact absurd (by assumption) Bool.false_ne_true
  · exact ⟨_, rfl⟩

set_option tactic.hygienic true in
theorem placeOf_seq {k : Int} {n p : Nat} (h : placeOf k n = some p) : seqIndex? k n = some p ∧ p < n ∧ -(n : Int) ≤ k ∧ k < n := by
  unfold placeOf at h
  split at h
  · split at h
    · cases h
      rename_i h0 h1
      exact ⟨seqIndex_of h0 h1, by omega, by omega, h1⟩
    · cases h
  · split at h
    · cases h
      rename_i h0 h1
      exact ⟨seqIndex_neg (by omega) h1, by omega, h1, by omega⟩
    · cases h

section
variable {cx : Cx} {A : Around} {P : Amb} {a b : Val} {v w : Value} {H : Hp} {ρ : Rho} {s : Shared}

set_option tactic.hygienic true in
theorem wp_listItem {l : Addr} {vs : List Value} {n : Nat} {k : Int} {u : Tok} {p : Nat} {x : Value} {Q : Value → Shared → Prop} {E : Value → Shared → Prop} (g : s.heap.get? l = some (listO vs n)) (z : vs.length ≤ sizeLine) (hp : placeOf k vs.length = some p) (hx : vs[p]? = some x) (h : Q x s) :
    wpAny (model cx.prog cx.w) A (getItem (.ref l) (.int k u)) Q E s := by
  have L : s.heap.IsList l vs.toArray := ⟨_, g, rfl, n, rfl⟩
  rw [sizeLine_eq] at z
  unfold placeOf at hp
  split at hp
  · split at hp
    · cases hp
      rename_i h0 h1
      exact wpAny_getItem_list L h0 (by omega) (by simpa using hx) h
    · cases hp
  · split at hp
    · cases hp
      rename_i h0 h1
      exact wpAny_getItem_list_neg L (by omega) (by simpa using h1) (by omega) (by simpa using hx) h
    · cases hp

set_option tactic.hygienic true in
theorem sim_subTail {value slice : Expr} (hu : A.units + 100 < cLine) (h1 : ∀ ρ h, P.P ρ h → VR cx ρ h a v) (h2 : ∀ ρ h, P.P ρ h → VR cx ρ h b w) : Sim cx A P (subscriptTail value slice v w) (subV a b) (Amb.vr cx) := by
  obtain ⟨ops, hops⟩ := subscripted_any slice v w
  refine Sim.look fun H ρ s r R p e Q E k => ?_
  have x1 := h1 _ _ p
  have x2 := h2 _ _ p
  cases x1 with
  | @loc l q hq =>
    simp only at e
    split at e
    · rename_i xs i hl
      obtain ⟨vs, n, _, g, rr, z⟩ := R.listAt hl hq
      cases x2 with
      | int i u =>
        simp only [Option.bind_eq_some_iff] at e
        obtain ⟨pl, e1, e2⟩ := e
        obtain ⟨x, ex, vx⟩ := rr.get e2
        have z' : vs.length ≤ sizeLine := by rw [← rr.length]; exact z
        exact tail_any (T := "list") (Heap.IsList.typeIs (s := s) ⟨_, g, rfl, n, rfl⟩) PySem.slot_list_getitem.lookup (wp_listItem g z' (by rw [← rr.length]; exact e1) ex (k _ s.toks vx)) hops
    · rename_i es i hl
      simp only [Option.bind_eq_some_iff] at e
      obtain ⟨kk, e1, e2⟩ := e
      obtain ⟨xs, _, D, rr, _⟩ := R.dictAt hl hq
      obtain ⟨bb, rfl, hk, _⟩ := key_is x2 e1
      have at' := rr.atKey kk
      rw [e2] at at'
      cases hp : atKey xs [kk.1, kk.2] with
      | none => rw [hp] at at'; exact at'.elim
      | some pr =>
        rw [hp] at at'
        exact tail_any (T := "dict") D.typeIs PySem.slot_dict_getitem.lookup (wpAny_getItem_heap (knd := cellKind cx) (tupleKind_room_in1 (by omega)) hk D hp (k _ _ at')) hops
    · cases e
  | @tup t vs n ms g no z rr =>
    cases x2 with
    | int i u =>
      simp only at e
      split at e
      · rename_i h0
        obtain ⟨x, ex, vx⟩ := rr.get e
        have lt := (List.getElem?_eq_some_iff.mp ex).1
        have z' : vs.length ≤ sizeLine := by rw [← rr.length]; exact z
        rw [sizeLine_eq] at z'
        refine tail_any (T := "tuple") (Heap.IsTuple.typeIs (s := s) ⟨_, g, rfl, n, rfl⟩) slot_tuple_getitem.lookup ?_ hops
        exact getItem_tuple (items := vs.toArray) ⟨_, g, rfl, n, rfl⟩ (by omega) (by omega) (seqIndex_of h0 (by simp only [List.size_toArray]; omega)) (by simpa using ex) (k _ s.toks vx)
      · cases e
    | _ => cases e
  | @script t vs n ns g z rr =>
    cases x2 with
    | int i u =>
      simp only [Option.bind_eq_some_iff, Option.map_eq_some_iff] at e
      obtain ⟨pl, e1, ii, e2, rfl⟩ := e
      obtain ⟨x, ex, vx⟩ := rr.get (k := pl) (m := .int ii) (by rw [List.getElem?_map, e2]; rfl)
      have len : ns.length = vs.length := by rw [← rr.length, List.length_map]
      exact tail_any (T := "list") (Heap.IsList.typeIs (s := s) ⟨_, R.base _ _ g, rfl, n, rfl⟩) PySem.slot_list_getitem.lookup (wp_listItem (R.base _ _ g) (by rw [← len]; exact z) (by rw [← len]; exact e1) ex (k _ s.toks vx)) hops
    | _ => cases e
  | str x t z =>
    cases x2 with
    | int i u =>
      simp only [Option.bind_eq_some_iff, Option.map_eq_some_iff] at e
      obtain ⟨pl, e1, c, e2, rfl⟩ := e
      obtain ⟨q1, q2, q3, q4⟩ := placeOf_seq e1
      rw [sizeLine_eq] at z
      refine tail_any (T := "str") (typeIs_str s x t) PyProof.Rows.slot_str_getitem.lookup ?_ hops
      refine PyProof.Rows.getItem_str (c := c) ?_ (by rw [q1]; exact e2) (k _ _ (.str _ _ (by show 1 ≤ sizeLine; decide)))
      simp only [Bool.or_eq_false_iff, decide_eq_false_iff_not]
      omega
    | _ => cases e
  | _ => cases e
end
end Mine

-- part MBf
namespace Mine
open PySem

section
variable {cx : Cx} {A : Around} {P : Amb} {a b : Val} {v w : Value} {H : Hp} {ρ : Rho} {s : Shared}

/- the kind of a value, as the model sees it -/
noncomputable def KdIs (s : Shared) (v : Value) : Kd → Prop
  | .none => v = .none
  | .bool => ∃ b, v = .bool b
  | .int => ∃ i t, v = .int i t
  | .str => ∃ y t, v = .str y t
  | .tuple => ∃ p o, v = .ref p ∧ s.heap.get? p = some o ∧ o.cls = .type "tuple"
  | .list => ∃ p o, v = .ref p ∧ s.heap.get? p = some o ∧ o.cls = .type "list"
  | .dict => ∃ p o, v = .ref p ∧ s.heap.get? p = some o ∧ o.cls = .type "dict"
set_option tactic.hygienic true in
theorem kd_is (R : Rel cx H ρ s) (x : VR cx ρ s.heap a v) {k : Kd} (e : kdOf H a = some k) : KdIs s v k := by
  cases x with
  | none => cases e; rfl
  | bool b => cases e; exact ⟨_, rfl⟩
  | int i t => cases e; exact ⟨_, _, rfl⟩
  | str y t z => cases e; exact ⟨_, _, rfl⟩
  | tup g _ _ _ => cases e; exact ⟨_, _, rfl, g, rfl⟩
  | script g _ _ => cases e; exact ⟨_, _, rfl, R.base _ _ g, rfl⟩
  | @loc l p hp =>
    have e : (match H[l]? with | some (.list _) => some Kd.list | some (.dict _) => some Kd.dict | _ => none) = some k := e
    split at e
    · rename_i xs hl
      cases e
      obtain ⟨vs, n, _, g, _⟩ := R.listAt hl hp
      exact ⟨_, _, rfl, g, rfl⟩
    · rename_i es hl
      cases e
      obtain ⟨xs, _, D, _⟩ := R.dictAt hl hp
      obtain ⟨o, _, _, g, ex, _⟩ := D
      exact ⟨_, _, rfl, g, ex.1⟩
    · cases e
  | rng => cases e
  | exc => cases e

noncomputable def tyVal : Ty → Value
  | .int => .type "int"
  | .bool => .type "bool"
  | .str => .type "str"
  | .tuple => .type "tuple"
  | .list => .type "list"
  | .cls _ => .none
theorem wp_isi (R : Rel cx H ρ s) (x : VR cx ρ s.heap a v) {k : Kd} (e : kdOf H a = some k) {t : Ty} (ht : ∀ c, t ≠ .cls c) {Q : Value → Shared → Prop} {E : Value → Shared → Prop} (q : ∀ tk, Q (.bool (isKd t k)) { s with toks := tk }) :
    wpAny (model cx.prog cx.w) A (call (.builtin "isinstance") [v, tyVal t]) Q E s := by
  have d := kd_is R x e
  cases k <;> cases t
  case none.cls | bool.cls | int.cls | str.cls | tuple.cls | list.cls | dict.cls => exact absurd rfl (ht _)
  all_goals dsimp only [KdIs] at d
  case none.int => subst d; exact IsiPair.NoneType_int (q _)
  case none.bool => subst d; exact IsiPair.NoneType_bool (q _)
  case none.str => subst d; exact IsiPair.NoneType_str (q _)
  case none.tuple => subst d; exact IsiPair.NoneType_tuple (q _)
  case none.list => subst d; exact IsiPair.NoneType_list (q _)
  case bool.int => obtain ⟨b, rfl⟩ := d; exact IsiPair.bool_int (q _)
  case bool.bool => obtain ⟨b, rfl⟩ := d; exact IsiPair.bool_bool (q _)
  case bool.str => obtain ⟨b, rfl⟩ := d; exact IsiPair.bool_str (q _)
  case bool.tuple => obtain ⟨b, rfl⟩ := d; exact IsiPair.bool_tuple (q _)
  case bool.list => obtain ⟨b, rfl⟩ := d; exact IsiPair.bool_list (q _)
  case int.int => obtain ⟨i, u, rfl⟩ := d; exact IsiPair.int_int (q _)
  case int.bool => obtain ⟨i, u, rfl⟩ := d; exact IsiPair.int_bool (q _)
  case int.str => obtain ⟨i, u, rfl⟩ := d; exact IsiPair.int_str (q _)
  case int.tuple => obtain ⟨i, u, rfl⟩ := d; exact IsiPair.int_tuple (q _)
  case int.list => obtain ⟨i, u, rfl⟩ := d; exact IsiPair.int_list (q _)
  case str.int => obtain ⟨i, u, rfl⟩ := d; exact IsiPair.str_int (q _)
  case str.bool => obtain ⟨i, u, rfl⟩ := d; exact IsiPair.str_bool (q _)
  case str.str => obtain ⟨i, u, rfl⟩ := d; exact IsiPair.str_str (q _)
  case str.tuple => obtain ⟨i, u, rfl⟩ := d; exact IsiPair.str_tuple (q _)
  case str.list => obtain ⟨i, u, rfl⟩ := d; exact IsiPair.str_list (q _)
  case tuple.int => obtain ⟨p, o, rfl, g, c⟩ := d; exact IsiPair.tuple_int g c (q _)
  case tuple.bool => obtain ⟨p, o, rfl, g, c⟩ := d; exact IsiPair.tuple_bool g c (q _)
  case tuple.str => obtain ⟨p, o, rfl, g, c⟩ := d; exact IsiPair.tuple_str g c (q _)
  case tuple.tuple => obtain ⟨p, o, rfl, g, c⟩ := d; exact IsiPair.tuple_tuple g c (q _)
  case tuple.list => obtain ⟨p, o, rfl, g, c⟩ := d; exact IsiPair.tuple_list g c (q _)
  case list.int => obtain ⟨p, o, rfl, g, c⟩ := d; exact IsiPair.list_int g c (q _)
  case list.bool => obtain ⟨p, o, rfl, g, c⟩ := d; exact IsiPair.list_bool g c (q _)
  case list.str => obtain ⟨p, o, rfl, g, c⟩ := d; exact IsiPair.list_str g c (q _)
  case list.tuple => obtain ⟨p, o, rfl, g, c⟩ := d; exact IsiPair.list_tuple g c (q _)
  case list.list => obtain ⟨p, o, rfl, g, c⟩ := d; exact IsiPair.list_list g c (q _)
  case dict.int => obtain ⟨p, o, rfl, g, c⟩ := d; exact IsiPair.dict_int g c (q _)
  case dict.bool => obtain ⟨p, o, rfl, g, c⟩ := d; exact IsiPair.dict_bool g c (q _)
  case dict.str => obtain ⟨p, o, rfl, g, c⟩ := d; exact IsiPair.dict_str g c (q _)
  case dict.tuple => obtain ⟨p, o, rfl, g, c⟩ := d; exact IsiPair.dict_tuple g c (q _)
  case dict.list => obtain ⟨p, o, rfl, g, c⟩ := d; exact IsiPair.dict_list g c (q _)

/- what a built-in function's name leads to -/
noncomputable def bfVal : BF → Value
  | .len => .builtin "len"
  | .range => .type "range"
  | .list => .type "list"
  | .max2 => .builtin "max"
  | .sortedSet => .none

set_option tactic.hygienic true in
theorem items_at (R : Rel cx H ρ s) (x : VR cx ρ s.heap a v) {xs : List Val} (e : itemsOf a H = some xs) :
    (∃ p vs n, v = .ref p ∧ s.heap.get? p = some (listO vs n) ∧ VRs cx ρ s.heap xs vs ∧ xs.length ≤ sizeLine) ∨ (∃ p vs n, v = .ref p ∧ s.heap.get? p = some (tupO vs n) ∧ VRs cx ρ s.heap xs vs ∧ xs.length ≤ sizeLine) := by
  cases x with
  | @tup p vs n ms g no z r => cases e; exact .inr ⟨_, _, _, rfl, g, r, z⟩
  | @script p vs n ns g z r => cases e; exact .inl ⟨_, _, _, rfl, R.base _ _ g, r, by rw [List.length_map]; exact z⟩
  | @loc l p hp =>
    simp only [itemsOf] at e
    split at e
    · rename_i ys hl
      cases e
      obtain ⟨vs, n, _, g, r, z⟩ := R.listAt hl hp
      exact .inl ⟨_, _, _, rfl, g, r, z⟩
    · cases e
  | _ => cases e

theorem sim_len (h1 : ∀ ρ h, P.P ρ h → VR cx ρ h a v) : Sim cx A P (call (.builtin "len") [v]) (bfV .len [a]) (Amb.vr cx) := by
  refine Sim.look fun H ρ s r R p e Q E k => ?_
  have x := h1 _ _ p
  have gen : ∀ xs, itemsOf a H = some xs → r = .int xs.length → wpAny (model cx.prog cx.w) A (call (.builtin "len") [v]) Q E s := by
    intro xs e' hr
    subst hr
    rcases items_at R x e' with ⟨p, vs, n, rfl, g, rr, z⟩ | ⟨p, vs, n, rfl, g, rr, z⟩
    · rw [sizeLine_eq] at z
      rw [rr.length] at z k
      refine PyProof.Rows.len_list (items := vs.toArray) ⟨_, g, rfl, n, rfl⟩ (by simp only [List.size_toArray]; omega) ?_
      simp only [List.size_toArray]
      exact k _ _ (.int _ _)
    · rw [sizeLine_eq] at z
      rw [rr.length] at z k
      refine PyProof.Rows.len_tuple (items := vs.toArray) ⟨_, g, rfl, n, rfl⟩ (by simp only [List.size_toArray]; omega) ?_
      simp only [List.size_toArray]
      exact k _ _ (.int _ _)
  cases x with
  | str y t z =>
    simp only [Option.some.injEq] at e
    subst e
    rw [sizeLine_eq] at z
    exact PyProof.Rows.len_str (by omega) (k _ _ (.int _ _))
  | _ =>
    simp only [Option.map_eq_some_iff] at e
    obtain ⟨xs, e1, rfl⟩ := e
    exact gen xs e1 rfl

theorem sim_range (h1 : ∀ ρ h, P.P ρ h → VR cx ρ h a v) : Sim cx A P (call (.type "range") [v]) (bfV .range [a]) (Amb.vr cx) := by
  intro H ρ s R p
  have x := h1 _ _ p
  cases x with
  | int i t =>
    show SimAt cx A ((if -1073741824 ≤ i ∧ i ≤ 1073741824 then M.ret (Val.rng i) else M.bad) H) _ _ ρ s
    by_cases q : -1073741824 ≤ i ∧ i ≤ 1073741824
    · rw [if_pos q]
      have F := Full.push ρ s.heap { cls := .type "range", data := .fields #[.int 0 s.toks, .int i t, .int 1 (s.toks + 1)] }
      exact call_range_1 ⟨ρ, F, R.push _ _, .rng (IsRange.new _ _ _ _ _ _ _) (R.fresh_not (fresh_none _)) (by omega) (by omega)⟩
    · rw [if_neg q]; trivial
  | _ => trivial
theorem sim_max2 (hh : A.handled = none) (h1 : ∀ ρ h, P.P ρ h → VR cx ρ h a v) (h2 : ∀ ρ h, P.P ρ h → VR cx ρ h b w) : Sim cx A P (call (.builtin "max") [v, w]) (bfV .max2 [a, b]) (Amb.vr cx) := by
  intro H ρ s R p
  have x := h1 _ _ p
  have y := h2 _ _ p
  cases x with
  | int i t =>
    cases y with
    | int j u =>
      refine max_two_ints hh fun h' tk kp => ?_
      refine ⟨ρ, Full.more kp, R.more kp, ?_⟩
      by_cases q : j > i
      · rw [if_pos q, if_pos q]; exact .int _ _
      · rw [if_neg q, if_neg q]; exact .int _ _
    | _ => trivial
  | _ => trivial

/- a new list at a heap that keeps all -/
theorem simAt_listK {t : Sem Value} {xs : List Val} (R : Rel cx H ρ s) (z : xs.length ≤ sizeLine)
    (k : ∀ (Q : Value → Shared → Prop) (E : Value → Shared → Prop), (∀ h' tk vs n, (∀ b o, s.heap.get? b = some o → h'.get? b = some o) → h'.get? s.heap.objs.size = some (listO vs n) → (∀ ρ', Step ρ s.heap ρ' h' → VRs cx ρ' h' xs vs) → Q (.ref s.heap.objs.size) { s with heap := h', toks := tk }) → wpAny (model cx.prog cx.w) A t Q E s) :
    SimAt cx A (.ok (.loc H.length) (H ++ [.list xs])) t (Amb.vr cx) ρ s := by
  refine k _ _ fun h' tk vs n kp e r => ?_
  obtain ⟨F, R'⟩ := R.alloc (tk := tk) (o := .list xs) (p := (s.heap.objs.size, s.heap.objs.size)) kp ⟨fresh_none _, fresh_none _⟩
    (.list (n := n) e (r _ (Full.alloc kp ⟨fresh_none _, fresh_none _⟩).step) z)
  refine ⟨_, F, R', ?_⟩
  rw [R.len]
  exact VR.loc (p := (s.heap.objs.size, s.heap.objs.size)) (by rw [List.getElem?_append_right (Nat.le_refl _)]; simp)
theorem vrs_ints {xs : List Val} {vs : List Value} (n : Nat) (hx : xs.length = n) (hv : vs.length = n) (h : ∀ i (hi : i < n), ∃ t, xs[i]? = some (.int (i : Int)) ∧ vs[i]? = some (.int (i : Int) t)) (ρ : Rho) (hp : Heap) : VRs cx ρ hp xs vs := by
  have gen : ∀ (xs : List Val) (vs : List Value), xs.length = vs.length → (∀ i, i < xs.length → ∃ j t, xs[i]? = some (.int j) ∧ vs[i]? = some (.int j t)) → VRs cx ρ hp xs vs := by
    intro xs
    induction xs with
    | nil => intro vs h _; cases vs with
      | nil => exact .nil
      | cons _ _ => simp at h
    | cons x xs ih =>
      intro vs h k
      cases vs with
      | nil => simp at h
      | cons v vs =>
        obtain ⟨j, t, e1, e2⟩ := k 0 (by simp)
        simp at e1 e2
        subst e1 e2
        refine .cons (.int _ _) (ih vs (by simpa using h) fun i hi => ?_)
        obtain ⟨j', t', e1, e2⟩ := k (i + 1) (by simpa using hi)
        exact ⟨j', t', by simpa using e1, by simpa using e2⟩
  refine gen xs vs (hx.trans hv.symm) fun i hi => ?_
  obtain ⟨t, e1, e2⟩ := h i (by omega)
  exact ⟨_, t, e1, e2⟩

set_option tactic.hygienic true in
theorem sim_listOf (hh : A.handled = none) (h1 : ∀ ρ h, P.P ρ h → VR cx ρ h a v) : Sim cx A P (call (.type "list") [v]) (bfV .list [a]) (Amb.vr cx) := by
  intro H ρ s R p
  have x := h1 _ _ p
  cases x with
  | @rng q i t u w g no z1 z2 =>
    show SimAt cx A (if i ≤ 100000 then M.alloc (.list ((List.range i.toNat).map fun (k : Nat) => .int (k : Int))) H else .bad) _ _ ρ s
    by_cases hi : i ≤ 100000
    · rw [if_pos hi]
      refine simAt_listK R (by rw [List.length_map, List.length_range, sizeLine_eq]; omega) fun Q E k => ?_
      refine call_list_range (n := i.toNat) hh g (small_one (by omega) (by omega) z1 z2) (by rw [rangeSize_one]; split <;> omega) (by omega) fun h' tk acc c kp e it => ?_
      refine k h' tk acc.toList c kp (by simpa [listO] using e) fun ρ' _ => vrs_ints i.toNat (by simp) ?_ (fun j hj => ?_) _ _
      · have := it.1; simpa using this
      · have lt : j < acc.size := by rw [it.1]; exact hj
        have e0 : acc[j]? = some acc[j] := Array.getElem?_eq_getElem lt
        obtain ⟨t, ht⟩ := it.2 j _ e0
        refine ⟨t, by simp [hj], ?_⟩
        rw [ht] at e0
        simpa using e0
    · rw [if_neg hi]; trivial
  | @loc l q hq =>
    show SimAt cx A (match itemsOf (.loc l) H with
      | some xs => M.alloc (.list xs) H
      | none => .bad) _ _ ρ s
    split
    · rename_i xs e
      simp only [itemsOf] at e
      split at e
      · rename_i ys hl
        cases e
        obtain ⟨vs, n, _, g, r, z⟩ := R.listAt hl hq
        refine simAt_listK R z fun Q E k => ?_
        refine call_list_seq q.1 (T := "list") (items := vs.toArray) (.inl rfl) g rfl rfl (fun h' c kp e => ?_) (by simp only [List.size_toArray]; rw [← r.length]; exact z)
        exact k h' s.toks vs c kp e fun ρ' st => r.step st
      · cases e
    · trivial
  | _ => trivial
end
end Mine

-- part MBm
namespace Mine
open PySem

set_option tactic.hygienic true in
theorem attributeBase_of {o : Expr} (h : notSuper o = true) (n : Str) (env : Env) (t : Sem Value) : attributeBase o n env t = t := by
  unfold attributeBase
  split
  · rename_i id _ pos
    have : (id != ("super" : Str)) = true := h
    rw [if_pos (by simp only [this, Bool.true_or])]
  · rfl

section
variable {cx : Cx} {A : Around} {P : Amb} {env : Env} {H : Hp} {ρ : Rho} {s : Shared}

/- no star among the arguments -/
noncomputable def plainArgs (env : Env) : List Expr → Prop
  | [] => True
  | e :: es => starEach (e :: es) env = (false, eval e env) :: starEach es env ∧ plainArgs env es
theorem plainArgs_trees {env : Env} : ∀ {xs : List Expr} (pos : Pos), plainArgs env xs → backTo pos (starEach xs env) = xs.map fun e => (false, eval e env)
  | [], pos, _ => rfl
  | e :: es, pos, h => by
    rw [h.1]
    have := plainArgs_trees pos h.2
    unfold backTo at this ⊢
    rw [List.map_cons, this]
    simp
theorem plainArgs_few {env : Env} {xs : List Expr} {pos : Pos} (h : plainArgs env xs) (z : xs.length ≤ 20) :
    ((backTo pos (starEach xs env)).all (fun x => !x.1) && (backToKw pos (keywordEach [] env)).all (fun x => x.1.isSome) && decide (xs.length + ([] : List Keyword).length + (if ([] : List Keyword).isEmpty then 0 else 1) < 30)) = true := by
  rw [plainArgs_trees pos h]
  simp only [Bool.and_eq_true, List.all_eq_true, List.mem_map, forall_exists_index, and_imp, decide_eq_true_eq]
  refine ⟨⟨fun x e _ hx => by rw [← hx]; rfl, ?_⟩, ?_⟩
  · intro x hx; exact absurd (show x ∈ [] from hx) List.not_mem_nil
  · simp; omega

/- a method of a list, dict or str is looked up -/
theorem simK_method {T id : String} {o : Expr} {name : Str} {apos pos : Pos} {args : List Expr} {m : M Val} {g : Val → M Val} (hs : notSuper o = true) (hp : plainArgs env args) (hz : args.length ≤ 20) (hline : (apos.endLine == pos.line) = true)
    (pa : PlainAttrs T) (slot : Slot T name id) (hty : typeOf (.builtin id) = pure (.type "method_descriptor"))
    (x : SimAt cx A (m H) (eval o env) (Amb.vr cx) ρ s)
    (y : ∀ b a H' ρ' s', m H = .ok b H' → Full ρ s.heap ρ' s'.heap → Rel cx H' ρ' s' → VR cx ρ' s'.heap b a →
      SimK cx (g b H') (fun Q E s₁ => s₁.TypeIs a T ∧ (∀ p, a = .ref p → ∃ ob, s₁.heap.get? p = some ob ∧ ob.dict = none) ∧ wpAny (model cx.prog cx.w) A (callWith pos (.builtin id) [a] (args.map fun e => (false, eval e env)) []) Q E s₁) (Amb.vr cx) ρ' s') :
    SimAt cx A (m.bnd g H) (eval (.Call (.Attribute o name apos) args [] pos) env) (Amb.vr cx) ρ s :=
  SimAt.bindK (K' := fun Q E s => wpAny (model cx.prog cx.w) A (eval (.Call (.Attribute o name apos) args [] pos) env) Q E s) x y
    (fun a Q E Q' E' s ⟨h1, h2, h3⟩ k1 k2 => ⟨h1, h2, wpAny_mono h3 k1 k2⟩)
    (fun Q E h => wpAny_Call_method (attributeBase_of hs _ _ _) (plainArgs_few hp hz) hline pa slot hty (by rw [plainArgs_trees pos hp]; exact h))

theorem SimK.andK {β α : Type} {r : Res β} {p : Prop} (hp : p) {K : (α → Shared → Prop) → (Value → Shared → Prop) → Shared → Prop} {V : β → α → Amb} (x : SimK cx r K V ρ s) : SimK cx r (fun Q E s' => p ∧ K Q E s') V ρ s := x.mono fun _ _ h => ⟨hp, h⟩

theorem list_head (R : Rel cx H ρ s) {l : Nat} {p : Addr × Addr} {xs : List Val} (hl : H[l]? = some (.list xs)) (hp : ρ[l]? = some p) : s.TypeIs (.ref p.1) "list" ∧ ∀ q, Value.ref p.1 = .ref q → ∃ ob, s.heap.get? q = some ob ∧ ob.dict = none := by
  obtain ⟨vs, n, _, g, _⟩ := R.listAt hl hp
  exact ⟨⟨_, g, rfl⟩, fun q e => by cases e; exact ⟨_, g, rfl⟩⟩

theorem mapSeq_list (vs : List Value) (n : Nat) (f : Array Value → Array Value) : ∃ n', Obj.mapSeq f (listO vs n) = listO (f vs.toArray).toList n' := by
  unfold listO Obj.mapSeq
  exact ⟨_, rfl⟩

/- a list is exchanged by an update -/
theorem simAt_seq {l : Nat} {p : Addr × Addr} {b : Val} {v : Value} {ys : List Val} {vs : List Value} {n : Nat} (R : Rel cx H ρ s) (hl : ρ[l]? = some p) (hpp : p.2 = p.1) (g : s.heap.get? p.1 = some (listO vs n)) (f : Array Value → Array Value)
    (r : VRs cx ρ s.heap ys (f vs.toArray).toList) (z : ys.length ≤ sizeLine) (hv : ∀ h, Full ρ s.heap ρ h → VR cx ρ h b v) :
    ∃ ρ', Full ρ s.heap ρ' (s.heap.update p.1 (Obj.mapSeq f)) ∧ Rel cx (H.set l (.list ys)) ρ' { s with heap := s.heap.update p.1 (Obj.mapSeq f) } ∧ (Amb.vr cx b v).P ρ' (s.heap.update p.1 (Obj.mapSeq f)) := by
  obtain ⟨n', e⟩ := mapSeq_list vs n f
  have g' : (s.heap.update p.1 (Obj.mapSeq f)).get? p.1 = some (listO (f vs.toArray).toList n') := by
    rw [Heap.get?_update_self _ g (by rw [e]; rfl), e]
  have hs : Heap.SameBut p.1 s.heap (s.heap.update p.1 (Obj.mapSeq f)) := Heap.SameBut.update ..
  have own : Owned ρ p.1 := ⟨p, List.mem_of_getElem? hl, .inl rfl⟩
  have F := Full.own own g' hs
  obtain ⟨F', R'⟩ := R.set (tk := s.toks) (o := .list ys) hl (fun b ob eb n1 _ => by rw [hs.2 b n1]; exact eb) (SameBut.live hs g') (by
    obtain ⟨p1, p2⟩ := p
    dsimp only at hpp
    subst hpp
    exact .list g' (r.step F.step) z)
  exact ⟨ρ, F', R', hv _ F'⟩

theorem size_le_of {vs : List Value} {xs : List Val} (r : VRs cx ρ s.heap xs vs) (z : xs.length ≤ sizeLine) : vs.toArray.size ≤ sizeLine := by simp only [List.size_toArray]; rw [← r.length]; exact z


/- the arguments, then the rest -/
theorem simK_args {Φ : Funs} {Γ : Env'} {es : MEs} {xs : List Expr} {f : Value} {γ δ : Type} {g : List Val → M δ} {W : δ → γ → Amb} {K : List Value → (γ → Shared → Prop) → (Value → Shared → Prop) → Shared → Prop}
    (hn : xs = [] → es = .nil) (R : Rel cx H ρ s) (x : SimAt cx A (evalEs cx.T Φ es Γ H) (spliced (xs.map fun e => (false, eval e env))) (Amb.vrs cx) ρ s)
    (y : ∀ ms vs H' ρ' s', evalEs cx.T Φ es Γ H = .ok ms H' → Full ρ s.heap ρ' s'.heap → Rel cx H' ρ' s' → VRs cx ρ' s'.heap ms vs → SimK cx (g ms H') (K vs) W ρ' s') (mk : ∀ vs, MonoK (K vs)) :
    SimK cx ((evalEs cx.T Φ es Γ).bnd g H) (fun Q E s => wpAny (model cx.prog cx.w) A (evalArgs f true (xs.map fun e => (false, eval e env)) []) (fun a s₁ => a.kw = [] ∧ K a.pos Q E s₁) E s) W ρ s := by
  cases xs with
  | nil =>
    obtain rfl := hn rfl
    have e : evalEs cx.T Φ .nil Γ H = .ok [] H := rfl
    rw [bnd_ok e]
    refine (y [] [] H ρ s e (Full.refl _ _) R .nil).mono fun Q E h => ?_
    exact evalArgs_none ⟨rfl, h⟩
  | cons e0 es0 =>
    refine SimAt.bindK (K := K) x y mk fun Q E h => ?_
    exact Calls.evalArgs_plain (wpAny_mono h (fun vs s' h' => ⟨rfl, h'⟩) fun _ _ q => q)
theorem any_false (args : List Expr) : (args.map fun e => (false, eval e env)).any (·.1) = false := by
  induction args with
  | nil => rfl
  | cons e es ih => rw [List.map_cons, List.any_cons, ih]; rfl
theorem monoK_wp {α : Type} (t : Sem α) : MonoK fun Q E s => wpAny (model cx.prog cx.w) A t Q E s := fun _ _ _ _ _ h k1 k2 => wpAny_mono h k1 k2

/- a built-in function or method, called -/
theorem simK_callB {Φ : Funs} {Γ : Env'} {es : MEs} {xs : List Expr} {pos : Pos} {id : String} {first : List Value} {g : List Val → M Val} (hn : xs = [] → es = .nil) (R : Rel cx H ρ s)
    (x : SimAt cx A (evalEs cx.T Φ es Γ H) (spliced (xs.map fun e => (false, eval e env))) (Amb.vrs cx) ρ s)
    (y : ∀ ms vs H' ρ' s', evalEs cx.T Φ es Γ H = .ok ms H' → Full ρ s.heap ρ' s'.heap → Rel cx H' ρ' s' → VRs cx ρ' s'.heap ms vs → SimAt cx A (g ms H') (call (.builtin id) (first ++ vs)) (Amb.vr cx) ρ' s') :
    SimAt cx A ((evalEs cx.T Φ es Γ).bnd g H) (callWith pos (.builtin id) first (xs.map fun e => (false, eval e env)) []) (Amb.vr cx) ρ s :=
  (simK_args (f := .builtin id) (K := fun vs Q E s => wpAny (model cx.prog cx.w) A (call (.builtin id) (first ++ vs)) Q E s) hn R x y (fun _ => monoK_wp _)).mono fun Q E h =>
    Calls.callWith_builtin (any_false _) (wpAny_mono h (fun a s₁ h₁ => by rw [h₁.1]; exact h₁.2) fun _ _ q => q)

/-! ## the methods -/
/- where a method is found -/
noncomputable def bmAt : BM → String × String
  | .append => ("list", "list.append")
  | .pop => ("list", "list.pop")
  | .get => ("dict", "dict.get")
theorem bm_plain (m : BM) : PlainAttrs (bmAt m).1 := by
  cases m <;> first | exact F.plainAttrs_list | exact F.plainAttrs_dict | exact F.plainAttrs_str
theorem bm_slot (m : BM) : Slot (bmAt m).1 (bmName m).1 (bmAt m).2 := by
  cases m
  · exact F.slot_list_append
  · exact F.slot_list_pop
  · exact F.slot_dict_get
set_option maxRecDepth 100000 in
theorem bm_desc (m : BM) : typeOf (.builtin (bmAt m).2) = pure (.type "method_descriptor") := by
  cases m <;> kernel_rfl
set_option tactic.hygienic true in
theorem bm_fits {m : BM} {b : Val} {v : Value} (R : Rel cx H ρ s) (x : VR cx ρ s.heap b v) (h : bmFits m b H = some ()) : s.TypeIs v (bmAt m).1 ∧ ∀ q, v = .ref q → ∃ ob, s.heap.get? q = some ob ∧ ob.dict = none := by
  cases x with
  | str y t z =>
    cases m <;> simp [bmFits] at h <;> exact ⟨typeIs_str _ _ _, fun q e => nomatch e⟩
  | @loc l p hp =>
    simp only [bmFits] at h
    split at h
    · rename_i xs hl
      have := list_head R hl hp
      cases m <;> simp at h <;> exact this
    · rename_i es hl
      obtain ⟨xs, _, D, _⟩ := R.dictAt hl hp
      obtain ⟨o, _, _, g, ex, _⟩ := D
      have : s.TypeIs (.ref p.1) "dict" ∧ ∀ q, Value.ref p.1 = .ref q → ∃ ob, s.heap.get? q = some ob ∧ ob.dict = none := ⟨⟨_, g, ex.1⟩, fun q e => by cases e; exact ⟨_, g, ex.2.1⟩⟩
      cases m <;> simp at h <;> exact this
    · cases h
  | _ => cases m <;> cases h

theorem sim_bm {Φ : Funs} {Γ : Env'} {a : ME} {m : BM} {es : MEs} {o : Expr} {xs : List Expr} {apos pos : Pos} (hs : notSuper o = true) (hp : plainArgs env xs) (hz : xs.length ≤ 20) (hn : xs = [] → es = .nil) (hline : (apos.endLine == pos.line) = true)
    (x : Sim cx A P (eval o env) (evalE cx.T Φ a Γ) (Amb.vr cx)) (y : Sim cx A P (spliced (xs.map fun e => (false, eval e env))) (evalEs cx.T Φ es Γ) (Amb.vrs cx))
    (k : ∀ b v ms vs, ms.length = xs.length → Sim cx A ((Amb.vr cx b v).and (Amb.vrs cx ms vs)) (call (.builtin (bmAt m).2) (v :: vs)) (bmV m b ms) (Amb.vr cx)) (hlen : ∀ H ms H', evalEs cx.T Φ es Γ H = .ok ms H' → ms.length = xs.length) :
    Sim cx A P (eval (.Call (.Attribute o (bmName m).1 apos) xs [] pos) env) (evalE cx.T Φ (.bm a m es) Γ) (Amb.vr cx) := by
  intro H ρ s R p
  rw [ev_bm]
  refine simK_method (T := (bmAt m).1) (id := (bmAt m).2) hs hp hz hline (bm_plain m) (bm_slot m) (bm_desc m) (x H ρ s R p) fun b v H1 ρ1 s1 _ F1 R1 vr => ?_
  refine SimK.lookK fun _ fit => ?_
  obtain ⟨t1, t2⟩ := bm_fits R1 vr fit
  refine SimK.mono (K := fun Q E s => wpAny (model cx.prog cx.w) A (callWith pos (.builtin (bmAt m).2) [v] (xs.map fun e => (false, eval e env)) []) Q E s) ?_ fun Q E h => ⟨t1, t2, h⟩
  refine simK_callB hn R1 (y H1 ρ1 s1 R1 (P.st _ _ _ _ p F1)) fun ms vs H2 ρ2 s2 e2 F2 R2 vrs => ?_
  exact k b v ms vs (hlen _ _ _ e2) H2 ρ2 s2 R2 ⟨vr.step F2.step, vrs⟩
end
end Mine

-- part MLm
namespace Mine
open PySem

section
variable {cx : Cx} {A : Around} {H : Hp} {ρ : Rho} {s : Shared}

set_option tactic.hygienic true in
theorem bm_append (b : Val) (v : Value) (ms : List Val) (vs : List Value) (hl : ms.length = 1) : Sim cx A ((Amb.vr cx b v).and (Amb.vrs cx ms vs)) (call (.builtin "list.append") (v :: vs)) (bmV .append b ms) (Amb.vr cx) := by
  intro H ρ s R ⟨x, y⟩
  match ms, hl, y with
  | [m], _, .cons (v := u) y0 .nil =>
    cases x with
    | @loc l p hp =>
      show SimAt cx A (match H[l]? with
        | some (.list xs) => if xs.length < lid then Res.ok Val.none (H.set l (.list (xs ++ [m]))) else .bad
        | some (.dict es) => .bad
        | _ => .bad) _ _ ρ s
      split
      · rename_i xs e
        obtain ⟨ws, n, hpp, g, r, z⟩ := R.listAt e hp
        by_cases q : xs.length < lid
        · rw [if_pos q]
          rw [sizeLine_lid] at q
          refine call_meets F.slot_list_append ⟨_, g, rfl⟩ F.entry_list_append (F.args_list_append_2 _ _) (list_append p.1 ws.toArray n u (size_le_of r z)) ⟨g, ?_⟩
          exact simAt_seq R hp hpp g (fun x => x.push u) (by simpa using r.append (.one y0)) (by rw [List.length_append]; exact q) fun _ _ => .none
        · rw [if_neg q]; trivial
      · trivial
      · trivial
    | _ => trivial
set_option tactic.hygienic true in
theorem bm_pop (b : Val) (v : Value) (ms : List Val) (vs : List Value) (hl : ms.length = 0) : Sim cx A ((Amb.vr cx b v).and (Amb.vrs cx ms vs)) (call (.builtin "list.pop") (v :: vs)) (bmV .pop b ms) (Amb.vr cx) := by
  intro H ρ s R ⟨x, y⟩
  match ms, hl, y with
  | [], _, .nil =>
    cases x with
    | @loc l p hp =>
      show SimAt cx A (match H[l]? with
        | some (.list xs) => match xs.getLast? with
          | some v => Res.ok v (H.set l (.list xs.dropLast))
          | none => .bad
        | some (.dict es) => .bad
        | _ => .bad) _ _ ρ s
      split
      · rename_i xs e
        obtain ⟨ws, n, hpp, g, r, z⟩ := R.listAt e hp
        split
        · rename_i m em
          rw [List.getLast?_eq_getElem?] at em
          obtain ⟨u, eu, vu⟩ := r.get em
          have len := r.length
          refine call_meets F.slot_list_pop ⟨_, g, rfl⟩ F.entry_list_pop (F.args_list_pop_1 _) (MeetsSeq.list_pop_last p.1 ws.toArray n u (by simpa [len] using eu) (size_le_of r z)) ⟨g, ?_⟩
          refine simAt_seq R hp hpp g (fun x => x.eraseIdxIfInBounds (ws.toArray.size - 1)) ?_ (by rw [List.length_dropLast]; omega) fun h F => vu.step F.step
          have e1 : (ws.toArray.eraseIdxIfInBounds (ws.toArray.size - 1)).toList = ws.eraseIdx (ws.length - 1) := by simp
          have e2 : ∀ {α : Type} (l : List α), l.dropLast = l.eraseIdx (l.length - 1) := fun l => by
            rw [List.dropLast_eq_take, List.eraseIdx_eq_take_drop_succ]
            rw [List.drop_eq_nil_of_le (by omega), List.append_nil]
          rw [e1, e2, ← len]
          exact r.eraseIdx _
        · trivial
      · trivial
      · trivial
    | _ => trivial
end
end Mine

-- part MDict
namespace Mine
open PySem
/-! ## dicts whose keys are cells -/
section
variable {prog : Program} {w : World} {K : Type} [DecidableEq K] {knd : HeapKind prog w K} {A : Around} {E : Value → Shared → Prop} {s : Shared}
/- an entry is taken out -/
/- «d.pop(key)», the key being there -/
end
section
variable {prog : Program} {w : World} {K : Type} [DecidableEq K] {knd : HeapKind prog w K}
theorem stored_keys {h : Heap} {xs : List (K × Addr × Value)} {k : K} {a : Addr} {v : Value} (ks : ∀ x ∈ xs, knd.is h x.1 x.2.1) (hk : knd.is h k a) : ∀ x ∈ storedH xs k a v, knd.is h x.1 x.2.1 := by
  intro x hx
  unfold storedH at hx
  by_cases q : (atKey xs k).isSome = true
  · rw [if_pos q] at hx
    obtain ⟨y, hy, rfl⟩ := List.mem_map.mp hx
    unfold putAt
    by_cases e : y.1 = k
    · rw [if_pos e]; exact ks y hy
    · rw [if_neg e]; exact ks y hy
  · rw [if_neg q] at hx
    rcases List.mem_append.mp hx with hx | hx
    · exact ks x hx
    · rw [List.mem_singleton.mp hx]; exact hk
end
section
variable {cx : Cx} {A : Around} {P : Amb} {H : Hp} {ρ : Rho} {s : Shared} {h : Heap}
theorem DRs.length {es : List (Key × Val)} {xs : List (List Int × Addr × Value)} (r : DRs cx ρ h es xs) : xs.length = es.length := by
  induction r with
  | nil => rfl
  | cons _ _ _ ih => exact congrArg (· + 1) ih
theorem key_ne {k k' : Key} (q : ¬ k' = k) : ¬ ([k'.1, k'.2] = [k.1, k.2]) := fun e => q (by
  simp only [List.cons.injEq, and_true] at e
  exact Prod.ext e.1 e.2)
theorem DRs.put {es : List (Key × Val)} {xs : List (List Int × Addr × Value)} {k : Key} {a : Addr} {m : Val} {v : Value} (r : DRs cx ρ h es xs) (hn : (xs.map (·.1)).Nodup) (x : VR cx ρ h m v) (no : ¬ Owned ρ a) : DRs cx ρ h (dput es k m) (storedH xs [k.1, k.2] a v) := by
  induction r with
  | nil => exact .cons x no .nil
  | @cons k' v' b y es xs a' n r ih =>
    rw [List.map_cons, List.nodup_cons] at hn
    by_cases q : k' = k
    · subst q
      have e1 : storedH (([k'.1, k'.2], b, y) :: xs) [k'.1, k'.2] a v = ([k'.1, k'.2], b, v) :: xs := by
        unfold storedH
        rw [if_pos (by simp [PySem.atKey]), List.map_cons]
        congr 1
        · simp [putAt]
        · refine (List.map_congr_left fun z hz => ?_).trans (List.map_id _)
          unfold putAt
          rw [if_neg fun e => hn.1 (List.mem_map.mpr ⟨z, hz, e⟩)]; rfl
      rw [e1]
      show DRs cx ρ h (if k' = k' then _ else _) _
      rw [if_pos rfl]
      exact .cons x n r
    · have q' := key_ne q
      have e2 : PySem.atKey (([k'.1, k'.2], b, y) :: xs) [k.1, k.2] = PySem.atKey xs [k.1, k.2] := by
        unfold PySem.atKey
        rw [List.find?_cons]
        simp only [decide_eq_false q']
      have e1 : storedH (([k'.1, k'.2], b, y) :: xs) [k.1, k.2] a v = ([k'.1, k'.2], b, y) :: storedH xs [k.1, k.2] a v := by
        unfold storedH
        rw [e2]
        split
        · rw [List.map_cons]; congr 1
          unfold putAt; rw [if_neg q']
        · rfl
      rw [e1]
      show DRs cx ρ h (if k' = k then _ else _) _
      rw [if_neg q]
      exact .cons a' n (ih hn.2)
theorem DRs.sub {es : List (Key × Val)} {xs : List (List Int × Addr × Value)} {k : Key} {m : Val} (r : DRs cx ρ s.heap es xs) (h : dget es k = some m) : ∃ p, PySem.atKey xs [k.1, k.2] = some p ∧ VR cx ρ s.heap m p.2 := by
  have a := r.atKey k
  rw [h] at a
  cases e : PySem.atKey xs [k.1, k.2] with
  | none => rw [e] at a; exact a.elim
  | some p => rw [e] at a; exact ⟨p, rfl, a⟩
theorem dput_length (es : List (Key × Val)) (k : Key) (v : Val) : (dput es k v).length ≤ es.length + 1 := by
  induction es with
  | nil => exact Nat.le_refl _
  | cons e es ih =>
    show (if e.1 = k then _ else _ : List (Key × Val)).length ≤ _
    by_cases q : e.1 = k
    · rw [if_pos q]; exact Nat.le_succ _
    · rw [if_neg q]; exact Nat.succ_le_succ ih
/- the dict at a place, turned into another -/
theorem dict_set {l : Nat} {p : Addr × Addr} {es : List (Key × Val)} {xs : List (List Int × Addr × Value)} {h' : Heap} {tk : Nat} (R : Rel cx H ρ s) (hl : ρ[l]? = some p) (hpp : p.2 = p.1) (hm : h'.DictOfH (cellKind cx) p.1 xs) (hs : Heap.SameBut p.1 s.heap h')
    (hk : ∀ x ∈ xs, (cellKind cx).is s.heap x.1 x.2.1) (r : DRs cx ρ s.heap es xs) (z : es.length ≤ sizeLine) : Full ρ s.heap ρ h' ∧ Rel cx (H.set l (.dict es)) ρ { s with heap := h', toks := tk } := by
  have hm' := hm
  obtain ⟨o, _, _, e', _⟩ := hm
  have F := Full.own ⟨p, List.mem_of_getElem? hl, .inl rfl⟩ e' hs
  refine R.set hl (fun b ob eb n1 _ => by rw [hs.2 b n1]; exact eb) (SameBut.live hs e') ?_
  obtain ⟨p1, p2⟩ := p
  dsimp only at hpp
  subst hpp
  exact .dict hm' (r.step F.step hk) z
/- `{}` -/
theorem sim_dict {env : Env} {Φ : Funs} {Γ : Env'} {pos : Pos} : Sim cx A P (eval (.Dict [] [] pos) env) (evalE cx.T Φ .dict Γ) (Amb.vr cx) := by
  intro H ρ s R p
  refine wpAny_Dict_empty ?_
  have kp : ∀ b o, s.heap.get? b = some o → (s.heap.push { cls := .type "dict", data := .dict #[] }).get? b = some o := fun b o e => Heap.get?_push_of_some _ e
  obtain ⟨F, R'⟩ := R.alloc (tk := s.toks) (o := .dict []) (p := (s.heap.objs.size, s.heap.objs.size)) kp ⟨fresh_none _, fresh_none _⟩
    (.dict (Heap.DictOfH.new _) .nil (Nat.zero_le _))
  refine ⟨_, F, R', ?_⟩
  rw [R.len]
  exact VR.loc (p := (s.heap.objs.size, s.heap.objs.size)) (by rw [List.getElem?_append_right (Nat.le_refl _)]; simp)
/- `d.pop(cell)` -/
/- `d.get(cell)` -/
set_option tactic.hygienic true in
theorem bm_get (hu : A.units + 100 < cLine) (b : Val) (v : Value) (ms : List Val) (vs : List Value) (hl : ms.length = 1) : Sim cx A ((Amb.vr cx b v).and (Amb.vrs cx ms vs)) (call (.builtin "dict.get") (v :: vs)) (bmV .get b ms) (Amb.vr cx) := by
  intro H ρ s R ⟨x, y⟩
  match ms, hl, y with
  | [m], _, .cons (v := u) y0 .nil =>
    cases x with
    | @loc l p hp =>
      show SimAt cx A (match H[l]? with
        | some (.list xs) => .bad
        | some (.dict es) => (match keyOf m with
          | some k => Res.ok ((dget es k).getD .none) H
          | none => .bad)
        | _ => .bad) _ _ ρ s
      split
      · trivial
      · rename_i es e
        cases ek : keyOf m with
        | none => trivial
        | some k =>
          obtain ⟨xs, hpp, D, rr, z⟩ := R.dictAt e hp
          obtain ⟨bb, rfl, hk, no⟩ := key_is y0 ek
          refine call_meetsIn F.slot_dict_get D.typeIs F.entry_dict_get (F.args_dict_get_2 _ _) (meetsH_dict_get (cellKind cx) p.1 bb (not_sysModules R hp)) ⟨tupleKind_room_in1 (by omega), _, xs, hk, D, ?_⟩
          refine ⟨ρ, Full.refl _ _, R.toks _, ?_⟩
          have a := rr.atKey k
          cases eg : dget es k with
          | none =>
            rw [eg] at a
            cases ea : PySem.atKey xs [k.1, k.2] with
            | none => exact .none
            | some q => rw [ea] at a; exact a.elim
          | some r =>
            obtain ⟨q, hq, vr⟩ := rr.sub eg
            rw [hq]; exact vr
      · trivial
    | _ => trivial
/- `d.get(cell, other)` -/
end
end Mine

-- part MInv
namespace Mine
open PySem
section
variable {N : Names} {sc : Scope} {ns : List (Option Str)} {a b c : ME} {e : Expr} {es : MEs} {op op1 op2 : COp}
theorem inv_none (h : ck N sc ns .none e = true) : ∃ k pos, e = .Constant .none k pos := by
  obtain ⟨t, h⟩ := seen_of h
  exact ⟨_, _, t.2.trans (congrArg (fun c => Expr.Constant c t.1.2.1 t.1.2.2) (said h))⟩
theorem inv_bool {v : Bool} (h : ck N sc ns (.bool v) e = true) : ∃ k pos, e = .Constant (.bool v) k pos := by
  obtain ⟨t, h⟩ := seen_of h
  obtain ⟨u, h⟩ := seen_of h
  exact ⟨_, _, t.2.trans (congrArg (fun c => Expr.Constant c t.1.2.1 t.1.2.2) (u.2.trans (congrArg Const.bool (eq_of_beq h).symm)))⟩
theorem inv_int {v : Int} (h : ck N sc ns (.int v) e = true) : ∃ k pos, e = .Constant (.int v) k pos := by
  obtain ⟨t, h⟩ := seen_of h
  obtain ⟨u, h⟩ := seen_of h
  exact ⟨_, _, t.2.trans (congrArg (fun c => Expr.Constant c t.1.2.1 t.1.2.2) (u.2.trans (congrArg Const.int (of_decide_eq_true h).symm)))⟩
theorem inv_glob {k : Nat} (h : ck N sc ns (.glob k) e = true) : ∃ x pos, e = .Name x pos ∧ isGlob sc x = true ∧ hasNo N.globs x k = true := by
  obtain ⟨t, h⟩ := seen_of h
  exact ⟨_, _, t.2, an1 h, an2 h⟩
theorem inv_var {k : Nat} (h : ck N sc ns (.var k) e = true) : ∃ x pos, e = .Name x pos ∧ isVar sc ns k x = true := by
  obtain ⟨t, h⟩ := seen_of h
  exact ⟨_, _, t.2, h⟩
theorem inv_bin {op : BOp} (h : ck N sc ns (.bin op a b) e = true) : ∃ l o r pos, e = .BinOp l o r pos ∧ opOk op o = true ∧ ck N sc ns a l = true ∧ ck N sc ns b r = true := by
  obtain ⟨t, h⟩ := seen_of h
  exact ⟨_, _, _, _, t.2, an1 (an1 h), an2 (an1 h), an2 h⟩
theorem inv_neg (h : ck N sc ns (.neg a) e = true) : ∃ x pos, e = .UnaryOp .USub x pos ∧ ck N sc ns a x = true := by
  obtain ⟨t, h⟩ := seen_of h
  exact ⟨_, _, t.2.trans (congrArg (fun o => Expr.UnaryOp o t.1.2.1 t.1.2.2) (said (an1 h))), an2 h⟩
theorem inv_not (h : ck N sc ns (.not a) e = true) : ∃ x pos, e = .UnaryOp .Not x pos ∧ ck N sc ns a x = true := by
  obtain ⟨t, h⟩ := seen_of h
  exact ⟨_, _, t.2.trans (congrArg (fun o => Expr.UnaryOp o t.1.2.1 t.1.2.2) (said (an1 h))), an2 h⟩
theorem inv_and (h : ck N sc ns (.and a b) e = true) : ∃ x y rest pos, e = .BoolOp .And (x :: y :: rest) pos ∧ ck N sc ns a x = true ∧ ((rest = [] ∧ ck N sc ns b y = true) ∨ ck N sc ns b (.BoolOp .And (y :: rest) pos) = true) := by
  obtain ⟨t, h⟩ := seen_of h
  obtain ⟨⟨⟨x, y, rest⟩, z2⟩, h2⟩ := seen_of (an2 h)
  refine ⟨x, y, rest, t.1.2.2, t.2.trans ((congrArg (fun o => Expr.BoolOp o t.1.2.1 t.1.2.2) (said (an1 h))).trans (congrArg (fun o => Expr.BoolOp .And o t.1.2.2) z2)), an1 h2, ?_⟩
  cases rest with
  | nil => exact .inl ⟨rfl, an2 h2⟩
  | cons _ _ => exact .inr (an2 h2)
theorem inv_or (h : ck N sc ns (.or a b) e = true) : ∃ x y rest pos, e = .BoolOp .Or (x :: y :: rest) pos ∧ ck N sc ns a x = true ∧ ((rest = [] ∧ ck N sc ns b y = true) ∨ ck N sc ns b (.BoolOp .Or (y :: rest) pos) = true) := by
  obtain ⟨t, h⟩ := seen_of h
  obtain ⟨⟨⟨x, y, rest⟩, z2⟩, h2⟩ := seen_of (an2 h)
  refine ⟨x, y, rest, t.1.2.2, t.2.trans ((congrArg (fun o => Expr.BoolOp o t.1.2.1 t.1.2.2) (said (an1 h))).trans (congrArg (fun o => Expr.BoolOp .Or o t.1.2.2) z2)), an1 h2, ?_⟩
  cases rest with
  | nil => exact .inl ⟨rfl, an2 h2⟩
  | cons _ _ => exact .inr (an2 h2)
theorem inv_cmp (h : ck N sc ns (.cmp op a b) e = true) : ∃ l r pos, e = .Compare l [cmOp op] [r] pos ∧ ck N sc ns a l = true ∧ ck N sc ns b r = true ∧ notSet r = true := by
  obtain ⟨t, h⟩ := seen_of h
  obtain ⟨u, h2⟩ := seen_of (an2 h)
  exact ⟨_, _, _, t.2.trans ((congrArg (fun o => Expr.Compare t.1.1 o t.1.2.2.1 t.1.2.2.2) (of_decide_eq_true (an1 h))).trans (congrArg (fun o => Expr.Compare t.1.1 _ o t.1.2.2.2) u.2)), an1 (an1 h2), an2 (an1 h2), an2 h2⟩
theorem inv_cmp2 (h : ck N sc ns (.cmp2 op1 op2 a b c) e = true) : ∃ l m r pos, e = .Compare l [cmOp op1, cmOp op2] [m, r] pos ∧ ck N sc ns a l = true ∧ ck N sc ns b m = true ∧ ck N sc ns c r = true ∧ notSet r = true := by
  obtain ⟨t, h⟩ := seen_of h
  obtain ⟨u, h2⟩ := seen_of (an2 h)
  exact ⟨_, _, _, _, t.2.trans ((congrArg (fun o => Expr.Compare t.1.1 o t.1.2.2.1 t.1.2.2.2) (of_decide_eq_true (an1 h))).trans (congrArg (fun o => Expr.Compare t.1.1 _ o t.1.2.2.2) u.2)), an1 (an1 (an1 h2)), an2 (an1 (an1 h2)), an2 (an1 h2), an2 h2⟩
theorem inv_sub (h : ck N sc ns (.sub a b) e = true) : ∃ v s pos, e = .Subscript v s pos ∧ ck N sc ns a v = true ∧ ck N sc ns b s = true := by
  obtain ⟨t, h⟩ := seen_of h
  exact ⟨_, _, _, t.2, an1 h, an2 h⟩
theorem inv_tup (h : ck N sc ns (.tup es) e = true) : ∃ xs k pos, e = .Tuple xs k pos ∧ ckEs N sc ns es xs = true ∧ xs.length ≤ 1000 := by
  obtain ⟨t, h⟩ := seen_of h
  exact ⟨_, _, _, t.2, an1 h, of_decide_eq_true (an2 h)⟩
theorem inv_list (h : ck N sc ns (.list es) e = true) : ∃ xs pos, e = .List xs pos ∧ ckEs N sc ns es xs = true ∧ xs.length ≤ 1000 := by
  obtain ⟨t, h⟩ := seen_of h
  exact ⟨_, _, t.2, an1 h, of_decide_eq_true (an2 h)⟩
theorem inv_dict (h : ck N sc ns .dict e = true) : ∃ pos, e = .Dict [] [] pos := by
  obtain ⟨t, h⟩ := seen_of h
  exact ⟨t.1.2.2, t.2.trans (by rw [List.isEmpty_iff.mp (an1 h), List.isEmpty_iff.mp (an2 h)])⟩
theorem inv_attr {n : Nat} (h : ck N sc ns (.attr a n) e = true) : ∃ v y pos, e = .Attribute v y pos ∧ ck N sc ns a v = true ∧ hasNo N.attrs y n = true ∧ notSuper v = true := by
  obtain ⟨t, h⟩ := seen_of h
  exact ⟨_, _, _, t.2, an1 (an1 h), an2 (an1 h), an2 h⟩
theorem inv_call {f : Nat} (h : ck N sc ns (.call f es) e = true) : ∃ x np xs pos, e = .Call (.Name x np) xs [] pos ∧ isGlob sc x = true ∧ hasNo N.funs x f = true ∧ ckEs N sc ns es xs = true ∧ xs.length ≤ 20 := by
  obtain ⟨t, h⟩ := seen_of h
  exact ⟨_, _, _, _, t.2, an1 (an1 (an1 h)), an2 (an1 (an1 h)), an2 (an1 h), of_decide_eq_true (an2 h)⟩
theorem inv_new {f : Nat} (h : ck N sc ns (.new f es) e = true) : ∃ x np xs pos, e = .Call (.Name x np) xs [] pos ∧ isGlob sc x = true ∧ hasNo N.clss x f = true ∧ ckEs N sc ns es xs = true ∧ xs.length ≤ 20 := by
  obtain ⟨t, h⟩ := seen_of h
  exact ⟨_, _, _, _, t.2, an1 (an1 (an1 h)), an2 (an1 (an1 h)), an2 (an1 h), of_decide_eq_true (an2 h)⟩
theorem inv_umeth {m : Nat} (h : ck N sc ns (.umeth a m es) e = true) : ∃ o y apos xs pos, e = .Call (.Attribute o y apos) xs [] pos ∧ ck N sc ns a o = true ∧ hasNo N.meths y m = true ∧ ckEs N sc ns es xs = true ∧ xs.length ≤ 20 ∧ notSuper o = true ∧ (apos.endLine == pos.line) = true := by
  obtain ⟨t, h⟩ := seen_of h
  exact ⟨_, _, _, _, _, t.2.1, an1 (an1 (an1 (an1 h))), an2 (an1 (an1 (an1 h))), an2 (an1 (an1 h)), of_decide_eq_true (an2 (an1 h)), an2 h, t.2.2⟩
theorem inv_bf {f : BF} (h : ck N sc ns (.bf f es) e = true) : ∃ x np xs pos, e = .Call (.Name x np) xs [] pos ∧ isGlob sc x = true ∧ (bfName f).1 = x ∧ (bfName f).2 = xs.length ∧ ckEs N sc ns es xs = true := by
  obtain ⟨t, h⟩ := seen_of h
  exact ⟨_, _, _, _, t.2, an1 (an1 (an1 h)), of_decide_eq_true (an2 (an1 (an1 h))), of_decide_eq_true (an2 (an1 h)), an2 h⟩
theorem inv_bm {m : BM} (h : ck N sc ns (.bm a m es) e = true) : ∃ o y apos xs pos, e = .Call (.Attribute o y apos) xs [] pos ∧ ck N sc ns a o = true ∧ (bmName m).1 = y ∧ (bmName m).2 = xs.length ∧ ckEs N sc ns es xs = true ∧ notSuper o = true ∧ (apos.endLine == pos.line) = true := by
  obtain ⟨t, h⟩ := seen_of h
  exact ⟨_, _, _, _, _, t.2.1, an1 (an1 (an1 (an1 h))), of_decide_eq_true (an2 (an1 (an1 (an1 h)))), of_decide_eq_true (an2 (an1 (an1 h))), an2 (an1 h), an2 h, t.2.2⟩
theorem inv_isinst {t : Ty} (h : ck N sc ns (.isinst a t) e = true) : ∃ f np x y yp pos, e = .Call (.Name f np) [x, .Name y yp] [] pos ∧ isGlob sc f = true ∧ f = ("isinstance" : Str) ∧ isGlob sc y = true ∧ ck N sc ns a x = true ∧ tyOk N y t = true := by
  obtain ⟨p, h⟩ := seen_of h
  obtain ⟨u, h⟩ := seen_of h
  obtain ⟨w, h⟩ := seen_of h
  exact ⟨_, _, _, _, _, _, p.2.trans (congrArg (fun xs => Expr.Call (.Name p.1.1 p.1.2.1) xs [] p.1.2.2.2) (u.2.trans (congrArg (fun y => [u.1.1, y]) w.2))), an1 (an1 (an1 (an1 h))), of_decide_eq_true (an2 (an1 (an1 (an1 h)))), an2 (an1 (an1 h)), an2 (an1 h), an2 h⟩
theorem inv_comp {elt it : ME} {cond : MEo} (h : ck N sc ns (.comp elt it cond) e = true) : ∃ el x px i ifs csc pos, e = .ListComp el [⟨.Name x px, i, ifs, 0⟩] csc pos ∧ ck N sc ns it i = true ∧ notSet i = true ∧ compOk sc csc x = true ∧
    ck N csc (inner csc ns ++ [some x]) elt el = true ∧ ckC N csc (inner csc ns ++ [some x]) cond ifs = true := by
  obtain ⟨t, h⟩ := seen_of h
  obtain ⟨u, h⟩ := seen_of h
  exact ⟨_, _, _, _, _, _, _, t.2.trans (congrArg (fun g => Expr.ListComp t.1.1 g t.1.2.2.1 t.1.2.2.2) u.2), an1 (an1 (an1 (an1 h))), an2 (an1 (an1 (an1 h))), an2 (an1 (an1 h)), an2 (an1 h), an2 h⟩
/- the forms that the checker lets pass -/
noncomputable def formOk (comp : Bool) : Expr → Bool
  | .Constant .. => true
  | .Name .. => true
  | .BinOp .. => true
  | .UnaryOp .. => true
  | .BoolOp .. => true
  | .Compare .. => true
  | .Subscript .. => true
  | .Tuple .. => true
  | .List .. => true
  | .Dict .. => true
  | .Attribute .. => true
  | .Call .. => true
  | .ListComp .. => comp
  | _ => false
noncomputable def isComp : ME → Bool
  | .comp .. => true
  | _ => false
theorem form_of {e e' : Expr} {c : Bool} (h : e = e') (k : formOk c e' = true) : formOk c e = true := h ▸ k
theorem ck_head {m : ME} (h : ck N sc ns m e = true) : formOk (isComp m) e = true := by
  cases m with
  | none => obtain ⟨t, _⟩ := seen_of h; exact form_of t.2 rfl
  | bool v => obtain ⟨t, _⟩ := seen_of h; exact form_of t.2 rfl
  | int v => obtain ⟨t, _⟩ := seen_of h; exact form_of t.2 rfl
  | glob k => obtain ⟨t, _⟩ := seen_of h; exact form_of t.2 rfl
  | var k => obtain ⟨t, _⟩ := seen_of h; exact form_of t.2 rfl
  | bin op a b => obtain ⟨t, _⟩ := seen_of h; exact form_of t.2 rfl
  | neg a => obtain ⟨t, _⟩ := seen_of h; exact form_of t.2 rfl
  | not a => obtain ⟨t, _⟩ := seen_of h; exact form_of t.2 rfl
  | and a b => obtain ⟨t, _⟩ := seen_of h; exact form_of t.2 rfl
  | or a b => obtain ⟨t, _⟩ := seen_of h; exact form_of t.2 rfl
  | cmp op a b => obtain ⟨t, _⟩ := seen_of h; exact form_of t.2 rfl
  | cmp2 op1 op2 a b c => obtain ⟨t, _⟩ := seen_of h; exact form_of t.2 rfl
  | sub a i => obtain ⟨t, _⟩ := seen_of h; exact form_of t.2 rfl
  | tup es => obtain ⟨t, _⟩ := seen_of h; exact form_of t.2 rfl
  | list es => obtain ⟨t, _⟩ := seen_of h; exact form_of t.2 rfl
  | dict => obtain ⟨t, _⟩ := seen_of h; exact form_of t.2 rfl
  | attr a n => obtain ⟨t, _⟩ := seen_of h; exact form_of t.2 rfl
  | call f es => obtain ⟨t, _⟩ := seen_of h; exact form_of t.2 rfl
  | new f es => obtain ⟨t, _⟩ := seen_of h; exact form_of t.2 rfl
  | umeth a m es => obtain ⟨t, _⟩ := seen_of h; exact form_of t.2.1 rfl
  | bf f es => obtain ⟨t, _⟩ := seen_of h; exact form_of t.2 rfl
  | bm a m es => obtain ⟨t, _⟩ := seen_of h; exact form_of t.2.1 rfl
  | isinst a t => obtain ⟨t, _⟩ := seen_of h; exact form_of t.2 rfl
  | comp elt it cond => obtain ⟨t, _⟩ := seen_of h; exact form_of t.2 rfl
end
end Mine

-- part MMain
namespace Mine
open PySem

noncomputable def notStar : Expr → Bool
  | .Starred .. => false
  | _ => true
theorem starEach_plain {e : Expr} {es : List Expr} {env : Env} (h : notStar e = true) : starEach (e :: es) env = (false, eval e env) :: starEach es env := by
  cases e <;> first | rfl | cases h
theorem ck_notStar {N : Names} {sc : Scope} {ns : List (Option Str)} {m : ME} {e : Expr} (h : ck N sc ns m e = true) : notStar e = true := by
  have z := ck_head h
  cases e <;> first | rfl | cases z
theorem ckEs_plain {N : Names} {sc : Scope} {ns : List (Option Str)} {env : Env} : ∀ {ms : MEs} {xs : List Expr}, ckEs N sc ns ms xs = true → plainArgs env xs
  | .nil, [], _ => trivial
  | .nil, _ :: _, h => by cases (show false = true from h)
  | .cons _ _, [], h => by cases (show false = true from h)
  | .cons m ms, x :: xs, h => by
    have h := And.intro (an1 h) (an2 h)
    exact ⟨starEach_plain (ck_notStar h.1), ckEs_plain h.2⟩
theorem ckEs_nil {N : Names} {sc : Scope} {ns : List (Option Str)} {ms : MEs} (h : ckEs N sc ns ms [] = true) : ms = .nil := by
  cases ms with
  | nil => rfl
  | cons _ _ => cases (show false = true from h)
theorem evalEs_length {T : Tab} {Φ : Funs} {Γ : Env'} {N : Names} {sc : Scope} {ns : List (Option Str)} : ∀ {ms : MEs} {xs : List Expr} {H H' : Hp} {vs : List Val}, ckEs N sc ns ms xs = true → evalEs T Φ ms Γ H = .ok vs H' → vs.length = xs.length
  | .nil, [], H, H', vs, _, e => by cases (show Res.ok [] H = .ok vs H' from e); rfl
  | .nil, _ :: _, _, _, _, h, _ => by cases (show false = true from h)
  | .cons _ _, [], _, _, _, h, _ => by cases (show false = true from h)
  | .cons m ms, x :: xs, H, H', vs, h, e => by
    have h := And.intro (an1 h) (an2 h)
    rw [evs_cons] at e
    cases e1 : evalE T Φ m Γ H with
    | bad => rw [bnd_bad e1] at e; cases e
    | exc c H1 => rw [bnd_exc e1] at e; cases e
    | ok v H1 =>
      rw [bnd_ok e1] at e
      cases e2 : evalEs T Φ ms Γ H1 with
      | bad => rw [bnd_bad e2] at e; cases e
      | exc c H2 => rw [bnd_exc e2] at e; cases e
      | ok vs' H2 =>
        rw [bnd_ok e2] at e
        cases e
        rw [List.length_cons, List.length_cons, evalEs_length h.2 e2]

section
variable {cx : Cx} {N : Names} {A : Around} {P : Amb} {env : Env} {Φ : Funs} {Γ : Env'}

theorem sim_nil : Sim cx A P (spliced (([] : List Expr).map fun e => (false, eval e env))) (evalEs cx.T Φ .nil Γ) (Amb.vrs cx) := by
  intro H ρ s R p
  exact wpAny_pure ⟨ρ, Full.refl _ _, R, .nil⟩
theorem sim_cons {m : ME} {ms : MEs} {e : Expr} {es : List Expr} (x : Sim cx A P (eval e env) (evalE cx.T Φ m Γ) (Amb.vr cx)) (y : Sim cx A P (spliced (es.map fun e => (false, eval e env))) (evalEs cx.T Φ ms Γ) (Amb.vrs cx)) :
    Sim cx A P (spliced ((e :: es).map fun e => (false, eval e env))) (evalEs cx.T Φ (.cons m ms) Γ) (Amb.vrs cx) := by
  intro H ρ s R p
  rw [evs_cons]
  refine SimAt.bindK (K' := fun Q E s => wpAny (model cx.prog cx.w) A (spliced ((e :: es).map fun e => (false, eval e env))) Q E s) (K := fun v Q E s => wpAny (model cx.prog cx.w) A (spliced (es.map fun e => (false, eval e env))) (fun vs s' => Q (v :: vs) s') E s) (x H ρ s R p) ?_ ?_ ?_
  · intro b v H1 ρ1 s1 _ F1 R1 vr
    refine SimAt.bindK (K' := fun Q E s => wpAny (model cx.prog cx.w) A (spliced (es.map fun e => (false, eval e env))) (fun vs s' => Q (v :: vs) s') E s) (K := fun vs Q E s => Q (v :: vs) s) (y H1 ρ1 s1 R1 (P.st _ _ _ _ p F1)) ?_ ?_ ?_
    · intro bs vs H2 ρ2 s2 _ F2 R2 vrs
      exact ⟨ρ2, Full.refl _ _, R2, .cons (vr.step F2.step) vrs⟩
    · exact fun vs Q E Q' E' s h k _ => k _ _ h
    · exact fun Q E h => h
  · exact fun v Q E Q' E' s h k1 k2 => wpAny_mono h (fun _ _ => k1 _ _) k2
  · exact fun Q E h => Calls.spliced_cons h

theorem sim_tup {ms : MEs} {es : List Expr} {k : Nat} {pos : Pos} (hp : plainArgs env es) (hz : es.length ≤ 1000) (hlen : ∀ H vs H', evalEs cx.T Φ ms Γ H = .ok vs H' → vs.length = es.length) (y : Sim cx A P (spliced (es.map fun e => (false, eval e env))) (evalEs cx.T Φ ms Γ) (Amb.vrs cx)) :
    Sim cx A P (eval (.Tuple es k pos) env) (evalE cx.T Φ (.tup ms) Γ) (Amb.vr cx) := by
  intro H ρ s R p
  rw [ev_tup]
  refine SimAt.bindK (K' := fun Q E s => wpAny (model cx.prog cx.w) A (eval (.Tuple es k pos) env) Q E s) (K := fun vs Q E s₁ => vs.length ≤ sizeLine ∧ Q (.ref s₁.heap.objs.size) { s₁ with heap := s₁.heap.push (tupO vs 0) }) (y H ρ s R p) ?_ ?_ ?_
  · intro bs vs H1 ρ1 s1 e1 F1 R1 vrs
    have z : bs.length ≤ sizeLine := by rw [hlen _ _ _ e1, sizeLine_eq]; omega
    have F := Full.push ρ1 s1.heap (tupO vs 0)
    exact ⟨by rw [← vrs.length]; exact z, ρ1, F, R1.push _ _, .tup (Heap.get?_push_size _ rfl) (R1.fresh_not (fresh_none _)) z (vrs.step F.step)⟩
  · exact fun vs Q E Q' E' s h k1 _ => ⟨h.1, k1 _ _ h.2⟩
  · exact fun Q E h => wpAny_Tuple (by rw [plainArgs_trees pos hp]; exact h)
theorem sim_list {ms : MEs} {es : List Expr} {pos : Pos} (hp : plainArgs env es) (hz : es.length ≤ 1000) (hlen : ∀ H vs H', evalEs cx.T Φ ms Γ H = .ok vs H' → vs.length = es.length) (y : Sim cx A P (spliced (es.map fun e => (false, eval e env))) (evalEs cx.T Φ ms Γ) (Amb.vrs cx)) :
    Sim cx A P (eval (.List es pos) env) (evalE cx.T Φ (.list ms) Γ) (Amb.vr cx) := by
  intro H ρ s R p
  rw [ev_list]
  refine SimAt.bindK (K' := fun Q E s => wpAny (model cx.prog cx.w) A (eval (.List es pos) env) Q E s) (K := fun vs Q E s₁ => vs.length ≤ sizeLine ∧ Q (.ref s₁.heap.objs.size) { s₁ with heap := s₁.heap.push (listO vs 0) }) (y H ρ s R p) ?_ ?_ ?_
  · intro bs vs H1 ρ1 s1 e1 F1 R1 vrs
    have z : bs.length ≤ sizeLine := by rw [hlen _ _ _ e1, sizeLine_eq]; omega
    refine SimK.andK (by rw [← vrs.length]; exact z) ?_
    exact R1.newList s1.toks vrs z
  · exact fun vs Q E Q' E' s h k1 _ => ⟨h.1, k1 _ _ h.2⟩
  · exact fun Q E h => wpAny_List (by rw [plainArgs_trees pos hp]; exact h)
end
end Mine

-- part MStmt
namespace Mine
open PySem

/- all that is neither owned nor the frame's own stands -/
structure FullS (env : Env) (ρ : Rho) (h : Heap) (ρ' : Rho) (h' : Heap) : Prop where
  grow : Grow ρ h ρ'
  keep : ∀ b o, h.get? b = some o → ¬ Owned ρ b → b ≠ env.locals → (∀ y, env.cells.lookup y ≠ some b) → ∃ o', h'.get? b = some o' ∧ SameUp o o'
  live : Live h h'
theorem Full.toS {env : Env} {ρ ρ' : Rho} {h h' : Heap} (x : Full ρ h ρ' h') : FullS env ρ h ρ' h' := ⟨x.grow, fun b o e n _ _ => x.keep b o e n, x.live⟩
theorem FullS.refl (env : Env) (ρ : Rho) (h : Heap) : FullS env ρ h ρ h := (Full.refl ρ h).toS
theorem FullS.trans {env : Env} {ρ ρ' ρ'' : Rho} {h h' h'' : Heap} (x : FullS env ρ h ρ' h') (y : FullS env ρ' h' ρ'' h'') : FullS env ρ h ρ'' h'' :=
  ⟨x.grow.trans y.grow x.live, fun b o e n n1 n2 => by
      obtain ⟨o', e', u⟩ := x.keep b o e n n1 n2
      obtain ⟨o'', e'', u'⟩ := y.keep b o' e' (x.grow.not n e) n1 n2
      exact ⟨o'', e'', u.trans u'⟩, x.live.trans y.live⟩

section
variable {cx : Cx} {N : Names} {A : Around} {env : Env} {sc : Scope} {ns : List (Option Str)}
theorem EnvSt.notLoc {ρ : Rho} {h : Heap} (x : EnvSt cx env sc ρ h) {b : Addr} {o : Obj} (e : h.get? b = some o) (n : ∀ es k, o.data ≠ .dict es k) : b ≠ env.locals := fun q => by
  obtain ⟨m, ob, es, ep, e', d, _⟩ := x.loc
  rw [← q, e] at e'; cases e'
  exact n _ _ d
theorem EnvSt.notCell {ρ : Rho} {h : Heap} (x : EnvSt cx env sc ρ h) {b : Addr} {o : Obj} (e : h.get? b = some o) (n : ∀ v, o.data ≠ .cell v) (y : Str) : env.cells.lookup y ≠ some b := fun q => by
  obtain ⟨⟨v, ob, e', d⟩, _⟩ := x.cells y b q
  rw [e] at e'; cases e'
  exact n _ d
theorem FullS.step {ρ ρ' : Rho} {h h' : Heap} (x : EnvSt cx env sc ρ h) (F : FullS env ρ h ρ' h') : Step ρ h ρ' h' := by
  refine ⟨let ⟨e, h1, _⟩ := F.grow; ⟨e, h1⟩, fun b o e f n => ⟨?_, F.grow.not n e⟩, fun b o C e c n => ?_⟩
  · obtain ⟨o', e', u⟩ := F.keep b o e n (x.notLoc e f.notDict) (x.notCell e fun v q => by rcases f with ⟨_, _, _, f⟩ | ⟨_, _, f⟩ <;> rw [q] at f <;> cases f)
    rw [e', u.exact f.notDict]
  · obtain ⟨o', e', u⟩ := F.keep b o e n (x.notLoc e c.notDict) (x.notCell e fun v q => by obtain ⟨_, _, f⟩ := c; rw [q] at f; cases f)
    rw [u.exact c.notDict] at e'
    exact ⟨o, e', c, F.grow.not n e⟩

noncomputable def SimSAt (cx : Cx) (A : Around) (env : Env) (sc : Scope) (ns : List (Option Str)) (r : ResS) (t : Sem Flow) (ρ : Rho) (s : Shared) : Prop :=
  match r with
  | .bad => True
  | .next Γ' H' => wpAny (model cx.prog cx.w) A t (fun f s' => f = .next ∧ ∃ ρ', FullS env ρ s.heap ρ' s'.heap ∧ Rel cx H' ρ' s' ∧ EnvOk cx env sc ns Γ' ρ' s'.heap) (fun _ _ => False) s
  | .ret v H' => wpAny (model cx.prog cx.w) A t (fun f s' => ∃ v' ρ', f = .ret v' ∧ FullS env ρ s.heap ρ' s'.heap ∧ Rel cx H' ρ' s' ∧ VR cx ρ' s'.heap v v') (fun _ _ => False) s
  | .exc c Γ' H' => wpAny (model cx.prog cx.w) A t (fun _ _ => False) (fun e s' => ∃ ρ', FullS env ρ s.heap ρ' s'.heap ∧ Rel cx H' ρ' s' ∧ EnvOk cx env sc ns Γ' ρ' s'.heap ∧ Flying cx ρ' s.heap s'.heap c e) s
noncomputable def SimS (cx : Cx) (A : Around) (l : List Env) (env : Env) (sc : Scope) (ns : List (Option Str)) (t : Sem Flow) (m : Env' → Hp → ResS) : Prop :=
  ∀ (Γ : Env') (H : Hp) (ρ : Rho) (s : Shared), Rel cx H ρ s → EnvOk cx env sc ns Γ ρ s.heap → FramesOk cx l ρ s.heap → SimSAt cx A env sc ns (m Γ H) t ρ s

/- an expression's part of a statement -/
/- storing a name of the frame -/
set_option tactic.hygienic true in
theorem store_var {Γ : Env'} {H : Hp} {ρ : Rho} {s : Shared} {i : Nat} {y : Str} {mv : Val} {v : Value} {Q : Unit → Shared → Prop} {E : Value → Shared → Prop} (hlen : Γ.length = ns.length) (hnd : ∀ (i j : Nat) (y : Str), ns[i]? = some (some y) → ns[j]? = some (some y) → i = j)
    (R : Rel cx H ρ s) (e0 : EnvOk cx env sc ns Γ ρ s.heap) (ho : isOwn sc ns i y = true) (hv : VR cx ρ s.heap mv v)
    (k : ∀ h' tk, FullS env ρ s.heap ρ h' → Rel cx H ρ { s with heap := h', toks := tk } → EnvOk cx env sc ns (Γ.set i (some mv)) ρ h' →
      (∃ q o, ((sc.names.lookup y = some .local ∧ q = env.locals) ∨ (sc.names.lookup y = some .cell ∧ env.cells.lookup y = some q)) ∧ Heap.SameBut q s.heap h' ∧ h'.get? q = some o) → Q () { s with heap := h', toks := tk }) :
    wpAny (model cx.prog cx.w) A (storeName env y v) Q E s := by
  have hown : (sc.names.lookup y = some .local ∨ sc.names.lookup y = some .cell) ∧ ns[i]? = some (some y) := by
    unfold isOwn at ho
    rw [Bool.and_eq_true] at ho
    refine ⟨?_, ?_⟩
    · have := ho.1; split at this <;> simp_all
    · have := ho.2
      split at this
      · rename_i z ez; rw [ez, of_decide_eq_true this]
      · cases this
  obtain ⟨hk, hi⟩ := hown
  have hiΓ : i < Γ.length := by rw [hlen]; exact (List.getElem?_eq_some_iff.mp hi).1
  have set_i : (Γ.set i (some mv))[i]? = some (some mv) := by rw [List.getElem?_set_self hiΓ]
  have set_j : ∀ j, j ≠ i → (Γ.set i (some mv))[j]? = Γ[j]? := fun j hj => List.getElem?_set_ne (fun q => hj q.symm)
  rcases hk with hk | hk
  · have kd : env.kindOf y = some .local := e0.st.kinds y _ hk
    obtain ⟨m, hm⟩ := e0.st.loc
    refine wpAny_storeName_local kd hm (fun h' hn hs => ?_) (by rw [e0.st.fn]; rfl)
    obtain ⟨o, es, ep, eo, d, _⟩ := id hm
    obtain ⟨o', es', ep', eo', d', _⟩ := id hn
    have n1 : ¬ Fixed o := fun f => f.notDict _ _ d
    have n2 : ∀ C, ¬ IsExcO o C := fun C f => f.notDict _ _ d
    have St : Step ρ s.heap ρ h' := Step.but eo' eo hs n1 n2
    have notc : ∀ z c, env.cells.lookup z = some c → c ≠ env.locals := fun z c hc q => by
      obtain ⟨⟨v, ob, e', dc⟩, _⟩ := e0.st.cells z c hc
      rw [q, eo] at e'; cases e'
      rw [d] at dc; cases dc
    refine (fun a b c => k h' (s.toks + 1) a b c ⟨env.locals, o', .inl ⟨hk, rfl⟩, hs, eo'⟩) ⟨Grow.refl _ _, fun b ob eb _ nb _ => ⟨ob, by rw [hs.2 b nb]; exact eb, .refl ob⟩, SameBut.live hs eo'⟩ (R.but eo' eo hs n1 n2 e0.st.locN e0.st.locB) ⟨?_, by rw [List.length_set]; exact hlen, ?_⟩
    · refine ⟨e0.st.fn, e0.st.glob, e0.st.blt, e0.st.kinds, ⟨_, hn⟩, e0.st.locN, e0.st.locB, fun z c hc => ?_, e0.st.hasCell, e0.st.apart⟩
      obtain ⟨⟨u, hu⟩, c1, c2⟩ := e0.st.cells z c hc
      exact ⟨⟨u, IsCell_keep hu fun ob eb => ⟨ob, by rw [hs.2 c (notc z c hc)]; exact eb, rfl⟩⟩, c1, c2⟩
    · intro j z mz hj hz
      by_cases q : j = i
      · subst q
        rw [set_i] at hz; cases hz
        rw [hi] at hj; cases hj
        exact ⟨v, .inl ⟨kd, _, hn, by simp⟩, hv.step St⟩
      · rw [set_j j q] at hz
        obtain ⟨u, hu, ru⟩ := e0.vals j z mz hj hz
        have zy : z ≠ y := fun e => q (hnd j i y (e ▸ hj) hi)
        refine ⟨u, ?_, ru.step St⟩
        rcases hu with ⟨kz, m', hm', ez⟩ | ⟨kz, c, hc, ez⟩
        · refine .inl ⟨kz, _, hn, ?_⟩
          obtain ⟨o2, es2, ep2, eo2, d2, _, f2⟩ := hm'
          obtain ⟨o3, es3, ep3, eo3, d3, _, f3⟩ := hm
          rw [eo2] at eo3; cases eo3
          rw [d2] at d3; cases d3
          simp only [if_neg zy]
          rw [← f3 z, f2 z]; exact ez
        · exact .inr ⟨kz, c, hc, IsCell_keep ez fun ob eb => ⟨ob, by rw [hs.2 c (notc z c hc)]; exact eb, rfl⟩⟩
  · have kd : env.kindOf y = some .cell := e0.st.kinds y _ hk
    obtain ⟨c, hc⟩ := e0.st.hasCell y (.inl hk)
    obtain ⟨⟨u0, hu0⟩, cn, cb⟩ := e0.st.cells y c hc
    refine wpAny_storeName_cell e0.st.fn kd hc hu0 fun h' hn hs => ?_
    obtain ⟨o, eo, d⟩ := id hu0
    obtain ⟨o', eo', d'⟩ := id hn
    have n1 : ¬ Fixed o := fun f => by rcases f with ⟨_, _, _, f⟩ | ⟨_, _, f⟩ <;> rw [d] at f <;> cases f
    have n2 : ∀ C, ¬ IsExcO o C := fun C f => by obtain ⟨_, _, f⟩ := f; rw [d] at f; cases f
    have St : Step ρ s.heap ρ h' := Step.but eo' eo hs n1 n2
    have notl : env.locals ≠ c := fun q => by
      obtain ⟨m, ob, es, ep, e', dl, _⟩ := e0.st.loc
      rw [q, eo] at e'; cases e'
      rw [d] at dl; cases dl
    have locK : ∀ ob, s.heap.get? env.locals = some ob → ∃ o', h'.get? env.locals = some o' ∧ o'.data = ob.data := fun ob eb => ⟨ob, by rw [hs.2 _ notl]; exact eb, rfl⟩
    refine (fun a b c' => k h' s.toks a b c' ⟨c, o', .inr ⟨hk, hc⟩, hs, eo'⟩) ⟨Grow.refl _ _, fun b ob eb _ _ nb => ⟨ob, by rw [hs.2 b (fun q => nb y (q ▸ hc))]; exact eb, .refl ob⟩, SameBut.live hs eo'⟩ (R.but eo' eo hs n1 n2 cn cb) ⟨?_, by rw [List.length_set]; exact hlen, ?_⟩
    · obtain ⟨m, hm⟩ := e0.st.loc
      refine ⟨e0.st.fn, e0.st.glob, e0.st.blt, e0.st.kinds, ⟨m, Heap_Ns_keep hm locK⟩, e0.st.locN, e0.st.locB, fun z c' hc' => ?_, e0.st.hasCell, e0.st.apart⟩
      obtain ⟨⟨u, hu⟩, c1, c2⟩ := e0.st.cells z c' hc'
      by_cases q : c' = c
      · subst q; exact ⟨⟨_, hn⟩, c1, c2⟩
      · exact ⟨⟨u, IsCell_keep hu fun ob eb => ⟨ob, by rw [hs.2 c' q]; exact eb, rfl⟩⟩, c1, c2⟩
    · intro j z mz hj hz
      by_cases q : j = i
      · subst q
        rw [set_i] at hz; cases hz
        rw [hi] at hj; cases hj
        exact ⟨v, .inr ⟨.inl kd, c, hc, hn⟩, hv.step St⟩
      · rw [set_j j q] at hz
        obtain ⟨u, hu, ru⟩ := e0.vals j z mz hj hz
        have zy : z ≠ y := fun e => q (hnd j i y (e ▸ hj) hi)
        refine ⟨u, ?_, ru.step St⟩
        rcases hu with ⟨kz, m', hm', ez⟩ | ⟨kz, c', hc', ez⟩
        · exact .inl ⟨kz, m', Heap_Ns_keep hm' locK, ez⟩
        · have cc : c' ≠ c := fun e => zy (e0.st.apart z y c' hc' (e ▸ hc))
          exact .inr ⟨kz, c', hc', IsCell_keep ez fun ob eb => ⟨ob, by rw [hs.2 c' cc]; exact eb, rfl⟩⟩
end
end Mine

-- part MFun
namespace Mine
open PySem

/- calls of the text's defs do as the mini functions do -/
noncomputable def FunsOk (cx : Cx) (Φ : Funs) (d : Nat) : Prop :=
  ∀ (k : Nat) (a : Addr) (args : List Val) (vals : List Value) (A : Around) (l : List Env), cx.fns[k]? = some a → RoomF A d → A.frames = some l →
    Sim cx A ((Amb.vrs cx args vals).and (Amb.frames cx l)) (call (.ref a) vals) (Φ k args) (Amb.vr cx)

section
variable {cx : Cx} {N : Names} {A : Around} {env : Env} {sc : Scope} {ns : List (Option Str)} {Γ : Env'} {Φ : Funs} {d : Nat} {l : List Env}

/- a def's object -/
theorem Base.func (B : Base cx N) {k : Nat} {a : Addr} (hk : cx.fns[k]? = some a) (hd : ∃ f, cx.T.funs[k]? = some f) : ∃ o fd, cx.h₀.get? a = some o ∧ o.data = .func fd := by
  obtain ⟨f, hf⟩ := hd
  obtain ⟨o, fd, body, ns, e, _, d, _⟩ := (B.fns k a f hk hf).is
  exact ⟨o, fd, e, d⟩

theorem sim_callU (B : Base cx N) (hΦ : FunsOk cx Φ d) (room : Room A d) (hfr : A.frames = some l) {f : Nat} {x : Str} {xs : List Expr} {es : MEs} {np pos : Pos} (hg : isGlob sc x = true) (hk : hasNo N.funs x f = true) (hex : ∃ g, cx.T.funs[f]? = some g) (hes : ckEs N sc ns es xs = true)
    (y : Sim cx A ((Amb.env cx env sc ns Γ).and (Amb.frames cx l)) (spliced (xs.map fun e => (false, eval e env))) (evalEs cx.T Φ es Γ) (Amb.vrs cx)) :
    Sim cx A ((Amb.env cx env sc ns Γ).and (Amb.frames cx l)) (eval (.Call (.Name x np) xs [] pos) env) (evalE cx.T Φ (.call f es) Γ) (Amb.vr cx) := by
  obtain ⟨mg, mb, ng, nb, q, _⟩ := B.ns
  obtain ⟨a, ha, hx⟩ := q x f (hasNo_eq hk)
  obtain ⟨o, fd, ho, hd⟩ := B.func ha hex
  intro H ρ s R p
  rw [ev_call]
  refine SimK.mono (simK_args (f := .ref a) (K := fun vs Q E s => (s.heap.get? a = some o ∧ o.data = .func fd) ∧ wpAny (model cx.prog cx.w) A (call (.ref a) vs) Q E s) (fun e => ckEs_nil (e ▸ hes)) R (y H ρ s R p) ?_ ?_) ?_
  · intro ms vs H1 ρ1 s1 _ F1 R1 vrs
    exact SimK.andK ⟨R1.base _ _ ho, hd⟩ (hΦ f a ms vs A l ha room.toF hfr H1 ρ1 s1 R1 ⟨vrs, (Amb.frames cx l).st _ _ _ _ p.2 F1⟩)
  · exact fun vs Q E Q' E' s h k1 k2 => ⟨h.1, wpAny_mono h.2 k1 k2⟩
  · intro Q E h
    refine wpAny_Call_ofName (wp_glob R p.1.st hg ng nb (.inl hx) ?_)
    rw [plainArgs_trees pos (ckEs_plain hes)]
    exact Calls.callWith_function (o := o) (fd := fd) (wpAny_mono h (fun b s₁ h₁ => by rw [h₁.1]; exact h₁.2) fun _ _ q => q)

/-! ## entering a def -/
theorem zip_lookup_get {α : Type} : ∀ {ns : List Str} {vs : List α} {i : Nat} {y : Str} {v : α}, ns.Nodup → ns[i]? = some y → vs[i]? = some v → (ns.zip vs).lookup y = some v
  | [], _, _, _, _, _, h, _ => by simp at h
  | _ :: _, [], _, _, _, _, _, h => by simp at h
  | n :: ns, u :: vs, 0, y, v, _, h1, h2 => by simp at h1 h2; subst h1 h2; simp [List.zip_cons_cons]
  | n :: ns, u :: vs, i + 1, y, v, nd, h1, h2 => by
    simp at h1 h2
    have ne : (y == n) = false := by
      have : y ∈ ns := List.mem_of_getElem? h1
      simpa using fun e : y = n => (List.nodup_cons.mp nd).1 (e ▸ this)
    rw [List.zip_cons_cons, List.lookup_cons, ne]
    exact zip_lookup_get (List.nodup_cons.mp nd).2 h1 h2
theorem filterMap_zip : ∀ {ns : List Str} {vs : List Value}, ns.Nodup → vs.length = ns.length → (ns.filterMap fun n => ((ns.zip vs).lookup n).map (n, ·)) = ns.zip vs := by
  have gen : ∀ (ns : List Str) (vs : List Value) (look : Str → Option Value), vs.length = ns.length → (∀ (i : Nat) (y : Str) (v : Value), ns[i]? = some y → vs[i]? = some v → look y = some v) → (ns.filterMap fun n => (look n).map (n, ·)) = ns.zip vs := by
    intro ns
    induction ns with
    | nil => intro vs look _ _; rfl
    | cons n ns ih =>
      intro vs look hl k
      cases vs with
      | nil => simp at hl
      | cons v vs =>
        have e := k 0 n v (by simp) (by simp)
        rw [List.filterMap_cons, e]
        simp only [Option.map_some, List.zip_cons_cons]
        rw [ih vs look (by simpa using hl) fun i y u h1 h2 => k (i + 1) y u (by simpa using h1) (by simpa using h2)]
  intro ns vs nd hl
  exact gen ns vs _ hl fun i y v h1 h2 => zip_lookup_get nd h1 h2
theorem bindArgs_plain {fd : FuncData} {vals : List Value} {names : List Str} (h1 : fd.params.posonlyargs = []) (h2 : fd.params.args.map (·.arg) = names) (h3 : fd.params.vararg = none) (h4 : fd.params.kwonlyargs = []) (h5 : fd.params.kwarg = none) (h6 : fd.defaults = .none)
    (nd : names.Nodup) (hl : vals.length = names.length) : bindArgs fd ⟨vals, []⟩ = pure (names.zip vals) := by
  unfold bindArgs
  have hs : seqItems? Value.none = pure none := rfl
  have hmiss : ∀ k : Nat, ((names.take k).filter fun n => ((names.zip vals).lookup n).isNone) = [] := by
    intro k
    rw [List.filter_eq_nil_iff]
    intro n hn
    obtain ⟨i, hi⟩ := List.mem_iff_getElem?.mp (List.mem_of_mem_take hn)
    have lt : i < vals.length := by rw [hl]; exact (List.getElem?_eq_some_iff.mp hi).1
    rw [zip_lookup_get nd hi (List.getElem?_eq_getElem lt)]
    simp
  simp only [h1, h2, h3, h4, h5, h6, List.map_nil, List.nil_append, List.append_nil, hs, pure_bind, hl, List.forIn_nil, Option.getD_none, List.length_nil, Nat.sub_zero, List.drop_nil, Nat.lt_irrefl, decide_false, Bool.false_and, Bool.false_eq_true, if_false, hmiss, List.isEmpty_nil, Bool.not_true, List.zip_nil_right, filterMap_zip nd hl]

set_option tactic.hygienic true in
theorem cells_has : ∀ {names : List (Str × NameKind)} {n : Nat} {acc : List (Str × Addr)} {y : Str}, ((y, NameKind.cell) ∈ names ∨ (acc.lookup y).isSome = true) → ((cellsFrom n names acc).lookup y).isSome = true
  | [], _, _, _, h => by
    rcases h with h | h
    · cases h
    · exact h
  | (z, k) :: r, n, acc, y, h => by
    unfold cellsFrom
    split
    · rename_i hk
      refine cells_has ?_
      rcases h with h | h
      · rcases List.mem_cons.mp h with e | h
        · cases e; right; simp
        · exact .inl h
      · right
        rw [List.lookup_cons]
        split
        · rfl
        · exact h
    · rename_i hk
      refine cells_has ?_
      rcases h with h | h
      · rcases List.mem_cons.mp h with e | h
        · cases e; simp at hk
        · exact .inl h
      · exact .inr h
theorem bindL_get {kd : Str → Option NameKind} : ∀ {binds : List (Str × Value)} {m : Str → Option Value} {y : Str} {v : Value}, (binds.map (·.1)).Nodup → (y, v) ∈ binds → kd y = some .local → bindL kd binds m y = some v := by
  have keep : ∀ (binds : List (Str × Value)) (m : Str → Option Value) (y : Str), y ∉ binds.map (·.1) → bindL kd binds m y = m y := by
    intro binds
    induction binds with
    | nil => intro m y _; rfl
    | cons b r ih =>
      intro m y hy
      obtain ⟨n, v⟩ := b
      simp only [List.map_cons, List.mem_cons, not_or] at hy
      unfold bindL
      rw [ih _ _ hy.2]
      split
      · simp [hy.1]
      · rfl
  intro binds
  induction binds with
  | nil => intro m y v _ h _; cases h
  | cons b r ih =>
    intro m y v nd h hk
    obtain ⟨n, u⟩ := b
    rw [List.map_cons, List.nodup_cons] at nd
    unfold bindL
    rcases List.mem_cons.mp h with e | h
    · cases e
      rw [keep _ _ _ nd.1, if_pos hk]
      simp
    · exact ih nd.2 h hk
theorem bindC_get {kd : Str → Option NameKind} : ∀ {binds : List (Str × Value)} {m : Str → Option Value} {y : Str} {v : Value}, (binds.map (·.1)).Nodup → (y, v) ∈ binds → kd y ≠ some .local → bindC kd binds m y = some v := by
  have keep : ∀ (binds : List (Str × Value)) (m : Str → Option Value) (y : Str), y ∉ binds.map (·.1) → bindC kd binds m y = m y := by
    intro binds
    induction binds with
    | nil => intro m y _; rfl
    | cons b r ih =>
      intro m y hy
      obtain ⟨n, v⟩ := b
      simp only [List.map_cons, List.mem_cons, not_or] at hy
      unfold bindC
      rw [ih _ _ hy.2]
      split
      · rfl
      · simp [hy.1]
  intro binds
  induction binds with
  | nil => intro m y v _ h _; cases h
  | cons b r ih =>
    intro m y v nd h hk
    obtain ⟨n, u⟩ := b
    rw [List.map_cons, List.nodup_cons] at nd
    unfold bindC
    rcases List.mem_cons.mp h with e | h
    · cases e
      rw [keep _ _ _ nd.1, if_neg hk]
      simp
    · exact ih nd.2 h hk

/- the statements of a def's body do as the mini statements do -/
noncomputable def BodyOk (cx : Cx) (N : Names) (Φ : Funs) (d : Nat) : Prop :=
  ∀ (body : MSs) (stmts : List Stmt) (env : Env) (sc : Scope) (ns : List (Option Str)) (A : Around) (l : List Env), ckSs N sc ns body stmts = true → (∀ (i j : Nat) (y : Str), ns[i]? = some (some y) → ns[j]? = some (some y) → i = j) → Room A d → A.frames = some (env :: l) →
    env.frame = some env.locals → SimS cx A (env :: l) env sc ns (execs stmts env) (execSs cx.T Φ body)

theorem nodupS_inj : ∀ {ns : List (Option Str)}, nodupS ns = true → ∀ (i j : Nat) (y : Str), ns[i]? = some (some y) → ns[j]? = some (some y) → i = j
  | [], _, i, _, _, h, _ => by simp at h
  | none :: r, nd, i, j, y, h1, h2 => by
    cases i with
    | zero => simp at h1
    | succ i => cases j with
      | zero => simp at h2
      | succ j => simp at h1 h2; rw [nodupS_inj (by simpa [nodupS] using nd) i j y h1 h2]
  | some x :: r, nd, i, j, y, h1, h2 => by
    simp only [nodupS, Bool.and_eq_true, Bool.not_eq_true', List.contains_eq_mem, decide_eq_false_iff_not] at nd
    cases i with
    | zero =>
      cases j with
      | zero => rfl
      | succ j =>
        simp at h1 h2
        subst h1
        exact absurd (List.mem_of_getElem? h2) nd.1
    | succ i =>
      cases j with
      | zero =>
        simp at h1 h2
        subst h2
        exact absurd (List.mem_of_getElem? h1) nd.1
      | succ j =>
        simp at h1 h2
        rw [nodupS_inj nd.2 i j y h1 h2]
theorem nodup_of_inj {ns : List Str} (h : ∀ (i j : Nat) (y : Str), (ns.map some)[i]? = some (some y) → (ns.map some)[j]? = some (some y) → i = j) : ns.Nodup := by
  refine List.pairwise_iff_getElem.mpr fun i j hi hj lt e => ?_
  have := h i j ns[i] (by rw [List.getElem?_map, List.getElem?_eq_getElem hi]; rfl) (by rw [List.getElem?_map, List.getElem?_eq_getElem hj, e]; rfl)
  omega

theorem ckF_parts {f : MFun} {names : List Str} {params : Arguments} {body : List Stmt} {sc : Scope} (h : ckF N f names params body sc = true) :
    f.arity + f.nvars = names.length ∧ names.take f.arity = params.args.map (·.arg) ∧ params.posonlyargs = [] ∧ params.vararg = none ∧ params.kwonlyargs = [] ∧ params.kwarg = none ∧ nodupS (names.map some) = true ∧
      sc.isCoroutine = false ∧ sc.isGenerator = false ∧ sc.kind = .function ∧ ckSs N sc (names.map some) f.body body = true ∧
      (∀ p ∈ sc.names, p.2 = .cell → sc.names.lookup p.1 = some .cell) ∧ (∀ p ∈ sc.names, p.2 ≠ .free) ∧ (∀ y ∈ names.take f.arity, sc.names.lookup y = some .local ∨ sc.names.lookup y = some .cell) := by
  unfold ckF at h
  simp only [Bool.and_eq_true, decide_eq_true_eq, List.isEmpty_iff, Option.isNone_iff_eq_none, Bool.not_eq_true'] at h
  obtain ⟨⟨⟨⟨⟨⟨⟨⟨⟨⟨⟨⟨⟨⟨h1, h2⟩, h3⟩, h4⟩, h5⟩, h6⟩, h7⟩, h8⟩, h9⟩, h10⟩, h11⟩, h12⟩, h13⟩, h14⟩, h15⟩ := h
  refine ⟨h1, h2, h3, h4, h5, h6, h9, h10, h11, ?_, h13, ?_, ?_, ?_⟩
  · split at h12
    · assumption
    · cases h12
  · intro p hp hc
    have := List.all_eq_true.mp h14 p hp
    rw [hc] at this
    simp only at this
    split at this
    · assumption
    · cases this
  · intro p hp hc
    have := List.all_eq_true.mp h14 p hp
    rw [hc] at this
    cases this
  · intro y hy
    have := List.all_eq_true.mp h15 y hy
    split at this
    · left; assumption
    · right; assumption
    · cases this

theorem Room.deeper {d : Nat} (r : RoomF A (d + 1)) (env : Env) : Room (A.deeper env) d := ⟨r.hh, by have := r.depth; show A.depth + 1 + _ + _ < _; omega, by have := r.units; show A.units + 3 + _ + _ < _; omega⟩

theorem FunsOk.step (B : Base cx N) (hb : BodyOk cx N (callF cx.T d) d) : FunsOk cx (callF cx.T (d + 1)) (d + 1) := by
  intro k a args vals A l hk room hfr H ρ s R ⟨vrs, fok⟩
  rw [callF]
  cases hf : cx.T.funs[k]? with
  | none => trivial
  | some f =>
    show SimAt cx A (if args.length = f.arity then resOf (execSs cx.T (callF cx.T d) f.body (args.map some ++ List.replicate f.nvars none) H) else .bad) _ _ ρ s
    by_cases hl : args.length = f.arity
    · rw [if_pos hl]
      obtain ⟨o, fd, body, names, ho, hoc, hdata, hcd, hbody, hclo, hglob, hblt, hdf, hkd, hck⟩ := (B.fns k a f hk hf).is
      obtain ⟨c1, c2, c3, c4, c5, c6, c7, c8, c9, c10, c11, c12, c13, c14⟩ := ckF_parts hck
      have nd := nodupS_inj c7
      have nds : names.Nodup := nodup_of_inj nd
      have ndt : (names.take f.arity).Nodup := nds.sublist (List.take_sublist _ _)
      have vlen : vals.length = (names.take f.arity).length := by rw [List.length_take, ← vrs.length, hl]; omega
      have hbind : bindArgs fd ⟨vals, []⟩ = pure ((names.take f.arity).zip vals) := bindArgs_plain c3 c2.symm c4 c5 c6 hdf ndt vlen
      have hkind : ∀ x ∈ (names.take f.arity).zip vals, fd.scope.names.lookup x.1 = some .local ∨ (fd.scope.names.lookup x.1 = some .cell ∧ ((cellsFrom (s.heap.objs.size + 1) fd.scope.names []).lookup x.1).isSome = true) := by
        intro x hx
        rcases c14 x.1 (List.of_mem_zip hx).1 with h | h
        · exact .inl h
        · exact .inr ⟨h, cells_has (.inl (mem_of_lookup h))⟩
      generalize henv : callEnvC fd s.heap.objs.size a = env
      have eloc : env.locals = s.heap.objs.size := by rw [← henv]; rfl
      have escope : env.scope = fd.scope := by rw [← henv]; rfl
      have ecells : env.cells = cellsFrom (s.heap.objs.size + 1) fd.scope.names [] := by rw [← henv]; rfl
      have egl : env.globals = mainGlobals := by rw [← henv]; exact hglob
      have ebl : env.builtins = builtinsNs := by rw [← henv]; exact hblt
      have efr : env.frame = some env.locals := by rw [← henv]; rfl
      have ekind : ∀ y, env.kindOf y = fd.scope.names.lookup y := fun y => by unfold Env.kindOf; rw [escope]
      -- the body
      have main : ∀ s₁, InCallC s env.locals (bindL env.kindOf ((names.take f.arity).zip vals) fun _ => none) env.cells (bindC env.kindOf ((names.take f.arity).zip vals) fun _ => none) s₁ →
          Full ρ s.heap ρ s₁.heap ∧ SimSAt cx (A.deeper env) env fd.scope (names.map some) (execSs cx.T (callF cx.T d) f.body (args.map some ++ List.replicate f.nvars none) H) (execs body env) ρ s₁ := by
        intro s₁ x
        have hkeep := x.toInCall.keep
        have F0 : Full ρ s.heap ρ s₁.heap := Full.more hkeep
        obtain ⟨h₁, tk, e1⟩ := x.toInCall.same
        have R1 : Rel cx H ρ s₁ := by rw [e1] at hkeep ⊢; exact R.more hkeep
        have locfresh : s.heap.get? env.locals = none := by rw [eloc]; exact fresh_none _
        have lvB : Live cx.h₀ s.heap := fun b o e => ⟨o, R.base b o e⟩
        have cfresh : ∀ y c, env.cells.lookup y = some c → s.heap.get? c = none := fun y c hc => fresh_le (by have := x.above y c (mem_of_lookup hc); rw [eloc] at this; exact Nat.le_of_lt this)
        have cellFacts : ∀ y c, env.cells.lookup y = some c → s₁.heap.IsCell c (bindC env.kindOf ((names.take f.arity).zip vals) (fun _ => none) y) := fun y c hc => x.cell y c hc
        have eok : EnvOk cx env fd.scope (names.map some) (args.map some ++ List.replicate f.nvars none) ρ s₁.heap := by
          refine ⟨⟨by rw [escope]; exact c10, egl, ebl, fun y kd hy => ?_, ⟨_, x.toInCall.ns⟩, R.fresh_not locfresh, lvB.none locfresh, fun y c hc => ⟨⟨_, cellFacts y c hc⟩, R.fresh_not (cfresh y c hc), lvB.none (cfresh y c hc)⟩, fun y hy => ?_, fun y z c hy hz => name_of_addr x.apart (mem_of_lookup hy) (mem_of_lookup hz)⟩, by rw [List.length_append, List.length_map, List.length_replicate, List.length_map, hl]; exact c1, ?_⟩
          · rw [ekind, hy]
            cases kd <;> first | rfl | exact .inl rfl | trivial
          · rcases hy with hy | hy
            · rw [ecells]
              exact Option.isSome_iff_exists.mp (cells_has (.inl (mem_of_lookup hy)))
            · exact absurd rfl (c13 _ (mem_of_lookup hy))
          · intro i y mv hi hm
            have hi' : names[i]? = some y := by rw [List.getElem?_map] at hi; cases q : names[i]? <;> rw [q] at hi <;> simp at hi; rw [hi]
            by_cases lt : i < f.arity
            · have ha : args[i]? = some mv := by
                rw [List.getElem?_append_left (by rw [List.length_map, hl]; exact lt), List.getElem?_map] at hm
                cases q : args[i]? <;> rw [q] at hm <;> simp at hm
                rw [hm]
              obtain ⟨v, ev, vr⟩ := vrs.get ha
              have et : (names.take f.arity)[i]? = some y := by rw [List.getElem?_take, if_pos lt]; exact hi'
              have mem : (y, v) ∈ (names.take f.arity).zip vals := by
                refine List.mem_iff_getElem?.mpr ⟨i, ?_⟩
                rw [List.getElem?_zip_eq_some]; exact ⟨et, ev⟩
              have ndz : (((names.take f.arity).zip vals).map (·.1)).Nodup := by
                rw [List.map_fst_zip (by rw [vlen]; exact Nat.le_refl _)]; exact ndt
              refine ⟨v, ?_, vr.step F0.step⟩
              rcases c14 y (List.mem_of_getElem? et) with h | h
              · exact .inl ⟨by rw [ekind]; exact h, _, x.toInCall.ns, bindL_get ndz mem (by rw [ekind]; exact h)⟩
              · obtain ⟨c, hc⟩ := Option.isSome_iff_exists.mp (cells_has (n := s.heap.objs.size + 1) (acc := []) (.inl (mem_of_lookup h)))
                rw [← ecells] at hc
                have := cellFacts y c hc
                rw [bindC_get ndz mem (by rw [ekind, h]; simp)] at this
                exact .inr ⟨.inl (by rw [ekind]; exact h), c, hc, this⟩
            · exfalso
              rw [List.getElem?_append_right (by rw [List.length_map, hl]; omega), List.getElem?_replicate] at hm
              split at hm <;> simp at hm
        refine ⟨F0, hb f.body body env fd.scope (names.map some) (A.deeper env) l c11 nd (Room.deeper room env) (by show A.frames.map (env :: ·) = _; rw [hfr]; rfl) efr _ H ρ s₁ R1 eok ?_⟩
        · intro e he
          rcases List.mem_cons.mp he with rfl | he
          · obtain ⟨o', es, ep, eo', d', _⟩ := x.toInCall.ns
            exact ⟨by rw [escope, c10]; simp, e.locals, o', efr, lvB.none locfresh, eo', ⟨_, _, d'⟩, R.fresh_not locfresh⟩
          · exact (fok.full F0) e he
      -- what stands of the caller's heap
      have back : ∀ {s₁ ρ' h'}, Full ρ s.heap ρ s₁ → FullS env ρ s₁ ρ' h' → (∀ y c, env.cells.lookup y = some c → s.heap.get? c = none) → Full ρ s.heap ρ' h' := by
        intro s₁ ρ' h' F0 F1 cf
        refine ⟨?_, fun b ob e n => ?_, F0.live.trans F1.live⟩
        · exact F0.grow.trans F1.grow F0.live
        · obtain ⟨o1, e1, u1⟩ := F0.keep b ob e n
          obtain ⟨o2, e2, u2⟩ := F1.keep b o1 e1 n (fun q => by rw [q, eloc, fresh_none] at e; cases e) (fun y q => by rw [cf y b q] at e; cases e)
          exact ⟨o2, e2, u1.trans u2⟩
      have cf : ∀ y c, env.cells.lookup y = some c → s.heap.get? c = none := fun y c hc => by
        refine fresh_le ?_
        have ok := cellsFrom_ok fd.scope.names (s.heap.push { cls := .type "frame", data := .dict #[] }) (s.heap.objs.size + 1) [] ⟨fun _ _ hm => (nomatch hm), List.Pairwise.nil⟩ (by rw [Heap.size_push]; exact Nat.le_refl _)
        rw [Heap.size_push] at ok
        rw [ecells] at hc
        exact Nat.le_of_succ_le (ok.empty y c (mem_of_lookup hc)).2
      have hlim : s.heap.NoLimit := B.lim.keeps R.base
      have hcd' : s.heap.CodeRec fd.code fd.qualname := hcd.keeps R.base
      generalize hres : execSs cx.T (callF cx.T d) f.body (args.map some ++ List.replicate f.nvars none) H = res at main
      cases res with
      | bad => trivial
      | next Γ' H' =>
        refine wpAny_call (codeAny_call_cells (by have := room.depth; omega) (R.base _ _ ho) hdata hlim hcd' hbody hbind hclo hkind (fun s₁ x => ?_) c8 c9 c10)
        rw [henv] at x ⊢
        obtain ⟨F0, sim⟩ := main s₁ x
        exact wpAny_mono sim (fun fl s' ⟨h1, ρ', F1, R', _⟩ => by subst h1; exact ⟨ρ', back F0 F1 cf, R', .none⟩) fun _ _ q => q.elim
      | ret v H' =>
        refine wpAny_call (codeAny_call_cells (by have := room.depth; omega) (R.base _ _ ho) hdata hlim hcd' hbody hbind hclo hkind (fun s₁ x => ?_) c8 c9 c10)
        rw [henv] at x ⊢
        obtain ⟨F0, sim⟩ := main s₁ x
        exact wpAny_mono sim (fun fl s' ⟨v', ρ', h1, F1, R', vr⟩ => by subst h1; exact ⟨ρ', back F0 F1 cf, R', vr⟩) fun _ _ q => q.elim
      | exc c Γ' H' => trivial
    · rw [if_neg hl]; trivial
end
end Mine

-- part MIter
namespace Mine
open PySem

/- an iterator over xs that has handed out i of them -/
inductive ItOk (cx : Cx) (xs : List Val) (I : Addr) (i : Nat) (ρ : Rho) (h : Heap) : Option Nat → Prop
  | list {l : Nat} {p : Addr × Addr} : ρ[l]? = some p → h.IsListIter I p.1 i → ItOk cx xs I i ρ h (some l)
  | tup {a : Addr} {vs : List Value} {n : Nat} : h.get? a = some (tupO vs n) → ¬ Owned ρ a → VRs cx ρ h xs vs → h.IsTupleIter I a i → ItOk cx xs I i ρ h none
  | script {a : Addr} {vs : List Value} {n : Nat} : cx.h₀.get? a = some (listO vs n) → VRs cx ρ h xs vs → h.IsListIter I a i → ItOk cx xs I i ρ h none
  | rng {n : Int} : xs = (List.range n.toNat).map (fun (k : Nat) => Val.int (k : Int)) → IsRangeIter h I (i : Nat) ((n.toNat : Int) - (i : Nat)) 1 → ItOk cx xs I i ρ h none
  | str {x : Str} {t : Tok} {ty : String} : xs = x.cps.toList.map (fun c => Val.str ⟨#[c]⟩) → (ty = "str_ascii_iterator" ∨ ty = "str_iterator") → h.IsStrIter I ty x t i → ItOk cx xs I i ρ h none

/- an iterator's object -/
noncomputable def IterO (o : Obj) : Prop := (∃ vs, o.data = .fields vs) ∧ ∃ n, o.cls = .type n ∧ n ≠ "range"
theorem IterO.not {o : Obj} (x : IterO o) : ¬ Fixed o ∧ ∀ C, ¬ IsExcO o C := by
  obtain ⟨⟨vs, d⟩, n, c, ne⟩ := x
  refine ⟨fun f => ?_, fun C f => ?_⟩
  · rcases f with ⟨_, xs, k, f⟩ | ⟨f, _⟩
    · rw [d] at f; cases f
    · rw [c] at f; cases f; exact ne rfl
  · rw [f.1] at c; cases c
theorem IterO.notDict {o : Obj} (x : IterO o) (es : Array DictEntry) (n : Nat) : o.data ≠ .dict es n := by
  obtain ⟨⟨vs, d⟩, _⟩ := x
  rw [d]; exact fun q => nomatch q
theorem IterO.notCell {o : Obj} (x : IterO o) (v : Option Value) : o.data ≠ .cell v := by
  obtain ⟨⟨vs, d⟩, _⟩ := x
  rw [d]; exact fun q => nomatch q

theorem listO_not {vs : List Value} {n : Nat} : ¬ Fixed (listO vs n) ∧ ∀ C, ¬ IsExcO (listO vs n) C := by
  refine ⟨fun f => ?_, fun C f => by cases f.1⟩
  rcases f with ⟨f, _⟩ | ⟨f, _⟩
  · exact absurd (Value.type.inj f) (by decide)
  · exact absurd (Value.type.inj f) (by decide)
section
variable {cx : Cx} {A : Around} {xs : List Val} {I : Addr} {i : Nat} {ρ ρ' : Rho} {s : Shared} {H : Hp} {src : Option Nat}

theorem ItOk.step {h h' : Heap} (x : ItOk cx xs I i ρ h src) (st : Step ρ h ρ' h') (k : ∀ o, h.get? I = some o → h'.get? I = some o) : ItOk cx xs I i ρ' h' src := by
  cases x with
  | list hp hi => exact .list (st.get hp) (hi.at k)
  | tup e n r hi => exact .tup (st.keepT _ _ e (.inl ⟨rfl, _, _, rfl⟩) n).1 (st.keepT _ _ e (.inl ⟨rfl, _, _, rfl⟩) n).2 (r.step st) (hi.at k)
  | script e r hi => exact .script e (r.step st) (hi.at k)
  | rng e hi => exact .rng e (k _ hi)
  | str e ht hs => obtain ⟨o, e1, e2⟩ := hs; exact .str e ht ⟨o, k o e1, e2⟩
theorem ItOk.obj {h : Heap} (x : ItOk cx xs I i ρ h src) : ∃ o, h.get? I = some o ∧ IterO o := by
  cases x with
  | list hp hi => obtain ⟨o, e, c, d⟩ := hi; exact ⟨o, e, ⟨_, d⟩, _, c, by decide⟩
  | tup e n r hi => obtain ⟨o, e, c, d⟩ := hi; exact ⟨o, e, ⟨_, d⟩, _, c, by decide⟩
  | script e r hi => obtain ⟨o, e, c, d⟩ := hi; exact ⟨o, e, ⟨_, d⟩, _, c, by decide⟩
  | rng e hi => exact ⟨_, hi, ⟨_, rfl⟩, _, rfl, by decide⟩
  | str e ht hs => obtain ⟨o, e, c, d⟩ := hs; exact ⟨o, e, ⟨_, d⟩, _, c, by rcases ht with rfl | rfl <;> decide⟩

set_option tactic.hygienic true in
theorem iter_start {v : Val} {w : Value} (R : Rel cx H ρ s) (vr : VR cx ρ s.heap v w) (e : iterOf v H = some (xs, src)) {Q : Value → Shared → Prop} {E : Value → Shared → Prop}
    (k : ∀ o, (s.heap.push o).get? s.heap.objs.size = some o → ItOk cx xs s.heap.objs.size 0 ρ (s.heap.push o) src → Q (.ref s.heap.objs.size) { s with heap := s.heap.push o }) :
    wpAny (model cx.prog cx.w) A (pyIter w) Q E s := by
  have P := fun o => Full.push ρ s.heap o
  cases vr with
  | @loc l p hp =>
    simp only [iterOf] at e
    split at e
    · rename_i ys hl
      cases e
      obtain ⟨vs, n, _, g, r, z⟩ := R.listAt hl hp
      refine wpAny_pyIter_list (items := vs.toArray) ⟨_, g, rfl, n, rfl⟩ (k _ (Heap.get?_push_size _ rfl) (.list hp ⟨_, Heap.get?_push_size _ rfl, rfl, rfl⟩))
    · cases e
  | @tup a vs n ms g no z r =>
    cases e
    exact wpAny_pyIter_tuple (items := vs.toArray) ⟨_, g, rfl, n, rfl⟩ (k _ (Heap.get?_push_size _ rfl) (.tup (Heap.get?_push_of_some _ g) no (r.step (P _).step) ⟨_, Heap.get?_push_size _ rfl, rfl, rfl⟩))
  | @script a vs n ns g z r =>
    cases e
    exact wpAny_pyIter_list (items := vs.toArray) ⟨_, R.base _ _ g, rfl, n, rfl⟩ (k _ (Heap.get?_push_size _ rfl) (.script g (r.step (P _).step) ⟨_, Heap.get?_push_size _ rfl, rfl, rfl⟩))
  | @rng a n t u v g no z1 z2 =>
    cases e
    refine wpAny_pyIter_range g (small_one (by omega) (by omega) z1 z2) (k _ (Heap.get?_push_size _ rfl) (.rng rfl ?_))
    have e1 : Builtin.Range.rangeSize 0 n 1 = ((n.toNat : Nat) : Int) := by rw [rangeSize_one]; split <;> omega
    rw [e1]
    simpa using Heap.get?_push_size s.heap (o := { cls := .type "range_iterator", data := .fields #[rawInt 0, rawInt (n.toNat : Int), rawInt 1] }) rfl
  | str x t z =>
    cases e
    cases ha : x.cps.all (· < 128)
    · exact wpAny_pyIter_wide ha (k _ (Heap.get?_push_size _ rfl) (.str rfl (.inr rfl) ⟨_, Heap.get?_push_size _ rfl, rfl, rfl⟩))
    · exact wpAny_pyIter_ascii ha (k _ (Heap.get?_push_size _ rfl) (.str rfl (.inl rfl) ⟨_, Heap.get?_push_size _ rfl, rfl, rfl⟩))
  | _ => cases e

/- one turn's item -/
set_option tactic.hygienic true in
theorem iter_item (R : Rel cx H ρ s) (x : ItOk cx xs I i ρ s.heap src) (ck : chk src xs H = true) {m : Val} (hm : xs[i]? = some m) {Q : Option Value → Shared → Prop} {E : Value → Shared → Prop}
    (k : ∀ v h' tk, Heap.SameBut I s.heap h' → (∃ o, h'.get? I = some o) → (∀ st : Step ρ s.heap ρ h', VR cx ρ h' m v ∧ ItOk cx xs I (i + 1) ρ h' src) → Q (some v) { s with heap := h', toks := tk }) :
    wpAny (model cx.prog cx.w) A (pyNext (.ref I)) Q E s := by
  cases x with
  | @list l p hp hi =>
    simp only [chk] at ck
    split at ck
    · rename_i ys hl
      have := sames_eq _ _ ck
      subst this
      obtain ⟨vs, n, _, g, r, z⟩ := R.listAt hl hp
      obtain ⟨v, ev, vr⟩ := r.get hm
      exact wpAny_pyNext_list_item (items := vs.toArray) hi ⟨_, g, rfl, n, rfl⟩ (by simpa using ev) fun h' hi' hs => k v h' s.toks hs (by obtain ⟨o, e, _⟩ := hi'; exact ⟨o, e⟩) fun st => ⟨vr.step st, .list hp hi'⟩
    · cases ck
  | @tup a vs n g no r hi =>
    obtain ⟨v, ev, vr⟩ := r.get hm
    refine wpAny_pyNext_tuple_item (items := vs.toArray) hi ⟨_, g, rfl, n, rfl⟩ (by simpa using ev) fun h' hi' hs => k v h' s.toks hs (by obtain ⟨o, e, _⟩ := hi'; exact ⟨o, e⟩) fun st => ⟨vr.step st, .tup (st.keepT _ _ g (.inl ⟨rfl, _, _, rfl⟩) no).1 no (r.step st) hi'⟩
  | @script a vs n g r hi =>
    obtain ⟨v, ev, vr⟩ := r.get hm
    exact wpAny_pyNext_list_item (items := vs.toArray) hi ⟨_, R.base _ _ g, rfl, n, rfl⟩ (by simpa using ev) fun h' hi' hs => k v h' s.toks hs (by obtain ⟨o, e, _⟩ := hi'; exact ⟨o, e⟩) fun st => ⟨vr.step st, .script g (r.step st) hi'⟩
  | @rng n e hi =>
    subst e
    have lt : i < n.toNat := by
      have := (List.getElem?_eq_some_iff.mp hm).1
      simpa using this
    have hm' : m = .int (i : Int) := by
      rw [List.getElem?_map, List.getElem?_range lt] at hm
      simpa using hm.symm
    subst hm'
    refine wpAny_pyNext_range_item hi (by omega) fun h' hi' hs => k _ h' _ hs ⟨_, hi'⟩ fun st => ⟨.int _ _, .rng rfl ?_⟩
    have e1 : ((i + 1 : Nat) : Int) = (i : Int) + 1 := by omega
    have e2 : ((n.toNat : Int) - ((i + 1 : Nat) : Int)) = (n.toNat : Int) - (i : Int) - 1 := by omega
    rw [e1, ← e1, e2]
    exact hi'
  | @str x t ty e ht hs =>
    subst e
    rw [List.getElem?_map] at hm
    cases hc : x.cps.toList[i]? with
    | none => rw [hc] at hm; cases hm
    | some c =>
      rw [hc] at hm
      simp at hm
      subst hm
      have hc' : x.cps[i]? = some c := by simpa using hc
      have z1 : (⟨#[c]⟩ : Str).length ≤ sizeLine := by show 1 ≤ sizeLine; decide
      rcases ht with rfl | rfl
      · exact wpAny_pyNext_ascii_item hs hc' fun h' hi' hsb => k _ h' _ hsb (by obtain ⟨o, e, _⟩ := hi'; exact ⟨o, e⟩) fun st => ⟨.str _ _ z1, .str rfl (.inl rfl) hi'⟩
      · exact wpAny_pyNext_wide_item hs hc' fun h' hi' hsb => k _ h' _ hsb (by obtain ⟨o, e, _⟩ := hi'; exact ⟨o, e⟩) fun st => ⟨.str _ _ z1, .str rfl (.inr rfl) hi'⟩

/- the end -/
set_option tactic.hygienic true in
theorem iter_end (hh : A.handled = none) (R : Rel cx H ρ s) (x : ItOk cx xs I i ρ s.heap src) (ck : chk src xs H = true) (hm : xs[i]? = none) {Q : Option Value → Shared → Prop} {E : Value → Shared → Prop}
    (k : ∀ h' tk, Heap.ExtBut I s.heap h' → Q none { s with heap := h', toks := tk }) : wpAny (model cx.prog cx.w) A (pyNext (.ref I)) Q E s := by
  cases x with
  | @list l p hp hi =>
    simp only [chk] at ck
    split at ck
    · rename_i ys hl
      have := sames_eq _ _ ck
      subst this
      obtain ⟨vs, n, _, g, r, z⟩ := R.listAt hl hp
      have len := r.length
      refine wpAny_pyNext_list_end (items := vs.toArray) hh hi ⟨_, g, rfl, n, rfl⟩ ?_ fun h' he => k h' s.toks he
      rw [List.getElem?_eq_none_iff] at hm
      simp; omega
    · cases ck
  | @tup a vs n g no r hi =>
    have len := r.length
    refine wpAny_pyNext_tuple_end (items := vs.toArray) hh hi ⟨_, g, rfl, n, rfl⟩ ?_ fun h' he => k h' s.toks he
    rw [List.getElem?_eq_none_iff] at hm
    simp; omega
  | @script a vs n g r hi =>
    have len := r.length
    refine wpAny_pyNext_list_end (items := vs.toArray) hh hi ⟨_, R.base _ _ g, rfl, n, rfl⟩ ?_ fun h' he => k h' s.toks he
    rw [List.getElem?_eq_none_iff] at hm
    simp; omega
  | @rng n e hi =>
    subst e
    rw [List.getElem?_eq_none_iff] at hm
    simp at hm
    exact wpAny_pyNext_range_end hh hi (by omega) fun h' he => k h' s.toks he
  | @str x t ty e ht hs =>
    subst e
    rw [List.getElem?_eq_none_iff] at hm
    simp at hm
    have hn : x.cps[i]? = none := by simp; omega
    rcases ht with rfl | rfl
    · exact wpAny_pyNext_ascii_end hh hs hn fun h' he => k h' s.toks he
    · exact wpAny_pyNext_wide_end hh hs hn fun h' he => k h' s.toks he
end
end Mine

-- part MBool
namespace Mine
open PySem

theorem bnd_assoc {α β γ : Type} (m : M α) (f : α → M β) (g : β → M γ) : (m.bnd f).bnd g = m.bnd fun x => (f x).bnd g := by
  funext H
  unfold M.bnd
  cases m H <;> rfl
section
variable {α β : Type} {cx : Cx} {A : Around} {P : Amb} {t : Sem α} {m : M β} {V : β → α → Amb}
theorem Sim.relse {vs keep : List Value} {k : Unit → Sem α} (x : Sim cx A P (k ()) m V) : Sim cx A P (release vs keep >>= k) m V := x.pre fun _ _ _ h => wpAny_bind (wpAny_release h)
theorem Sim.oper {t : Sem Value} {V : β → Value → Amb} {vs : List Value} (x : Sim cx A P t m V) : Sim cx A P (operate vs t) m V := x.pre fun _ _ _ h => fun Γ p hΓ => by
  rw [Sem.wp_operate]; exact h Γ p hΓ
theorem Sim.of_eq {t' : Sem α} (e : t' = t) (x : Sim cx A P t m V) : Sim cx A P t' m V := e ▸ x
theorem Sim.of_m {m' : M β} (e : m' = m) (x : Sim cx A P t m V) : Sim cx A P t m' V := e ▸ x

/- what is known of a condition -/
noncomputable abbrev BV : Bool → Bool → Amb := fun b b' => Amb.prop (b' = b)
end

section
variable {cx : Cx} {A : Around} {P : Amb} {env : Env} {Φ : Funs} {Γ : Env'}

structure EOk (cx : Cx) (A : Around) (P : Amb) (Φ : Funs) (env : Env) (Γ : Env') (m : ME) (e : Expr) : Prop where
  val : Sim cx A P (eval e env) (evalE cx.T Φ m Γ) (Amb.vr cx)
  tru : Sim cx A P (isTrue e env (eval e env)) ((evalE cx.T Φ m Γ).bnd truth) BV

theorem sim_truthyA {a : Val} {v : Value} : Sim cx A (P.and (Amb.vr cx a v)) (truthy v) (truth a) BV := sim_truthy fun _ _ p => p.2

theorem EOk.of {m : ME} {e : Expr} (x : Sim cx A P (eval e env) (evalE cx.T Φ m Γ) (Amb.vr cx)) (h : isTrue e env (eval e env) = (do let v ← eval e env; standAt e.pos; holding [v] (truthy v))) : EOk cx A P Φ env Γ m e :=
  ⟨x, Sim.of_eq h (x.bind fun b a => Sim.stand (Sim.holding sim_truthyA))⟩

theorem Sim.and1 {α β : Type} {t : Sem α} {m : M β} {V : β → α → Amb} {Q : Amb} (x : Sim cx A P t m V) : Sim cx A (P.and Q) t m V := x.weak fun _ _ p => p.1

theorem eok_bin {op : BOp} {o : Operator} {a b : ME} {l r : Expr} {pos : Pos} (ho : opOk op o = true) (x : EOk cx A P Φ env Γ a l) (y : EOk cx A P Φ env Γ b r) : EOk cx A P Φ env Γ (.bin op a b) (.BinOp l o r pos) := by
  refine EOk.of ?_ rfl
  rw [arm_eval_BinOp, ev_bin]
  exact x.val.bind fun x1 v => (Sim.holding y.val.and1).bind fun y1 w => Sim.stand (Sim.oper (sim_bin ho (fun _ _ p => p.1.2) fun _ _ p => p.2))
theorem eok_neg {a : ME} {l : Expr} {pos : Pos} (x : EOk cx A P Φ env Γ a l) : EOk cx A P Φ env Γ (.neg a) (.UnaryOp .USub l pos) := by
  refine EOk.of ?_ rfl
  rw [arm_eval_UnaryOp, ev_neg]
  exact x.val.bind fun x1 v => Sim.stand (Sim.holding (sim_neg fun _ _ p => p.2))
theorem eok_not {a : ME} {l : Expr} {pos : Pos} (x : EOk cx A P Φ env Γ a l) : EOk cx A P Φ env Γ (.not a) (.UnaryOp .Not l pos) := by
  refine ⟨?_, ?_⟩
  · rw [arm_eval_UnaryOp, ev_not]
    exact x.val.bind fun x1 v => Sim.stand (Sim.holding (sim_not fun _ _ p => p.2))
  · rw [arm_isTrue_UnaryOp, ev_not]
    refine Sim.of_m (m := ((evalE cx.T Φ a Γ).bnd truth).bnd fun b => M.ret (!b)) ?_ (x.tru.bind fun b b' => Sim.ret fun ρ h p => ?_)
    · rw [bnd_assoc, bnd_assoc]
      congr 1; funext x1
      rw [bnd_assoc]
      congr 1
    · have : b' = b := p.2
      show (!b') = !b
      rw [this]

theorem bnd_ret {α : Type} (m : M α) : (m.bnd fun b => M.ret b) = m := by
  funext H
  unfold M.bnd
  cases m H <;> rfl

/- the rest of a chain of `and`s -/
noncomputable def EOks (cx : Cx) (A : Around) (P : Amb) (Φ : Funs) (env : Env) (Γ : Env') (op : BoolOp) (pos : Pos) (m : ME) (ys : List Expr) : Prop :=
  Sim cx A P (boolOp pos op (evalEach ys env)) (evalE cx.T Φ m Γ) (Amb.vr cx) ∧ Sim cx A P (allTrue op ys env) ((evalE cx.T Φ m Γ).bnd truth) BV
theorem EOks.one {op : BoolOp} {pos : Pos} {m : ME} {y : Expr} (x : EOk cx A P Φ env Γ m y) : EOks cx A P Φ env Γ op pos m [y] := by
  refine ⟨x.val, ?_⟩
  rw [arm_allTrue_cons]
  refine Sim.of_m (bnd_ret _).symm (x.tru.bind fun b b' => ?_)
  intro H ρ s R p
  have e : b' = b := p.2
  subst e
  cases op <;> cases b' <;> exact wpAny_pure ⟨ρ, Full.refl _ _, R, rfl⟩
theorem EOks.more {op : BoolOp} {pos : Pos} {m : ME} {y : Expr} {rest : List Expr} (x : EOk cx A P Φ env Γ m (.BoolOp op (y :: rest) pos)) : EOks cx A P Φ env Γ op pos m (y :: rest) := ⟨x.val, x.tru⟩

theorem sim_truthyV {a : Val} {v : Value} : Sim cx A (P.and (Amb.vr cx a v)) (truthy v) (truth a) (fun b b' => Amb.prop (b' = b ∧ v = .bool b)) := by
  intro H ρ s R p
  have x : VR cx ρ s.heap a v := p.2
  cases x with
  | bool b => exact simAt_pure R fun Q E k => wpAny_truthy_bool (k _ s.toks ⟨rfl, rfl⟩)
  | _ => trivial

theorem eok_and {a b : ME} {x y : Expr} {rest : List Expr} {pos : Pos} (hx : EOk cx A P Φ env Γ a x) (hy : EOks cx A P Φ env Γ .And pos b (y :: rest)) : EOk cx A P Φ env Γ (.and a b) (.BoolOp .And (x :: y :: rest) pos) := by
  refine ⟨?_, ?_⟩
  · rw [arm_eval_BoolOp, ev_and]
    refine hx.val.bind (f := fun v => do
      standAt pos
      let t ← holding [v] (truthy v)
      match BoolOp.And, t with
      | .And, false | .Or, true => pure v
      | _, _ => boolOp pos .And (evalEach (y :: rest) env)) fun x1 v => Sim.stand ((Sim.holding sim_truthyV).bind fun b b' => ?_)
    intro H ρ s R p
    obtain ⟨e1, e2⟩ : b' = b ∧ v = .bool b := p.2
    subst e1 e2
    cases b' with
    | true => exact hy.1 H ρ s R p.1.1
    | false => exact wpAny_pure ⟨ρ, Full.refl _ _, R, .bool _⟩
  · rw [arm_isTrue_BoolOp, arm_allTrue_cons, ev_and]
    refine Sim.of_m (m := ((evalE cx.T Φ a Γ).bnd truth).bnd fun t => match t with
      | true => (evalE cx.T Φ b Γ).bnd truth
      | false => M.ret false) ?_ (hx.tru.bind fun b b' => ?_)
    · rw [bnd_assoc, bnd_assoc]
      congr 1; funext x1
      rw [bnd_assoc]
      congr 1; funext t
      cases t <;> rfl
    · intro H ρ s R p
      have e : b' = b := p.2
      subst e
      cases b' with
      | true => exact hy.2 H ρ s R p.1
      | false => exact wpAny_pure ⟨ρ, Full.refl _ _, R, rfl⟩
theorem eok_or {a b : ME} {x y : Expr} {rest : List Expr} {pos : Pos} (hx : EOk cx A P Φ env Γ a x) (hy : EOks cx A P Φ env Γ .Or pos b (y :: rest)) : EOk cx A P Φ env Γ (.or a b) (.BoolOp .Or (x :: y :: rest) pos) := by
  refine ⟨?_, ?_⟩
  · rw [arm_eval_BoolOp, ev_or]
    refine hx.val.bind (f := fun v => do
      standAt pos
      let t ← holding [v] (truthy v)
      match BoolOp.Or, t with
      | .And, false | .Or, true => pure v
      | _, _ => boolOp pos .Or (evalEach (y :: rest) env)) fun x1 v => Sim.stand ((Sim.holding sim_truthyV).bind fun b b' => ?_)
    intro H ρ s R p
    obtain ⟨e1, e2⟩ : b' = b ∧ v = .bool b := p.2
    subst e1 e2
    cases b' with
    | false => exact hy.1 H ρ s R p.1.1
    | true => exact wpAny_pure ⟨ρ, Full.refl _ _, R, .bool _⟩
  · rw [arm_isTrue_BoolOp, arm_allTrue_cons, ev_or]
    refine Sim.of_m (m := ((evalE cx.T Φ a Γ).bnd truth).bnd fun t => match t with
      | true => M.ret true
      | false => (evalE cx.T Φ b Γ).bnd truth) ?_ (hx.tru.bind fun b b' => ?_)
    · rw [bnd_assoc, bnd_assoc]
      congr 1; funext x1
      rw [bnd_assoc]
      congr 1; funext t
      cases t <;> rfl
    · intro H ρ s R p
      have e : b' = b := p.2
      subst e
      cases b' with
      | false => exact hy.2 H ρ s R p.1
      | true => exact wpAny_pure ⟨ρ, Full.refl _ _, R, rfl⟩

/-! ## comparisons -/
theorem notSet_marks {r : Expr} (h : notSet r = true) (op : CmpOp) : behindInMarks op r = false := by
  cases r <;> first | rfl | cases h
theorem eok_cmp (hu : A.units + 100 < cLine) {op : COp} {a b : ME} {l r : Expr} {pos : Pos} (hn : notSet r = true) (x : EOk cx A P Φ env Γ a l) (y : EOk cx A P Φ env Γ b r) : EOk cx A P Φ env Γ (.cmp op a b) (.Compare l [cmOp op] [r] pos) := by
  have V : ∀ (x1 y1 : Val) (v w : Value), Sim cx A ((P.and (Amb.vr cx x1 v)).and (Amb.vr cx y1 w)) (operate [v, w] (compareOp (cmOp op) v w)) ((M.look (cmpV op x1 y1)).bnd fun r => M.ret (Val.bool r)) (Amb.vr cx) :=
    fun x1 y1 v w => Sim.oper (sim_cmp hu (fun _ _ p => p.1.2) fun _ _ p => p.2)
  refine ⟨?_, ?_⟩
  · rw [eval_Compare1, markedBehindIn_of_false (notSet_marks hn _), ev_cmp]
    exact x.val.bind fun x1 v => (Sim.holding y.val.and1).bind fun y1 w => Sim.stand (V x1 y1 v w)
  · rw [isTrue_Compare1, markedBehindIn_of_false (notSet_marks hn _), ev_cmp]
    rw [bnd_assoc]
    refine x.val.bind fun x1 v => ?_
    rw [bnd_assoc]
    exact (Sim.holding y.val.and1).bind fun y1 w => Sim.stand ((V x1 y1 v w).bind fun r c => Sim.holding sim_truthyA)
theorem eok_cmp2 (hu : A.units + 100 < cLine) {op1 op2 : COp} {a b c : ME} {l m r : Expr} {pos : Pos} (hn : notSet r = true) (x : EOk cx A P Φ env Γ a l) (y : EOk cx A P Φ env Γ b m) (z : EOk cx A P Φ env Γ c r) : EOk cx A P Φ env Γ (.cmp2 op1 op2 a b c) (.Compare l [cmOp op1, cmOp op2] [m, r] pos) := by
  have V1 : ∀ (x1 y1 : Val) (v w : Value), Sim cx A ((P.and (Amb.vr cx x1 v)).and (Amb.vr cx y1 w)) (holding [v, w] (compareOp (cmOp op1) v w)) ((M.look (cmpV op1 x1 y1)).bnd fun r => M.ret (Val.bool r)) (Amb.vr cx) :=
    fun x1 y1 v w => Sim.holding (sim_cmp hu (fun _ _ p => p.1.2) fun _ _ p => p.2)
  have e0 : ∀ (x1 y1 : Val) (k : Bool → M Val), ((M.look (cmpV op1 x1 y1)).bnd k) = (((M.look (cmpV op1 x1 y1)).bnd fun r => M.ret (Val.bool r)).bnd fun v => (truth v).bnd k) := fun x1 y1 k => by
    rw [bnd_assoc]; rfl
  refine ⟨?_, ?_⟩
  · rw [arm_eval_Compare, ev_cmp2]
    have em : markedEach [cmOp op1, cmOp op2] [m, r] (evalEach [m, r] env) = [eval m env, eval r env] := by
      show [eval m env, markedBehindIn (cmOp op2) r (eval r env)] = _
      rw [markedBehindIn_of_false (notSet_marks hn _)]
    rw [em]
    refine x.val.bind (f := fun left => do
      let rv ← holding [left] (eval m env)
      standAt pos
      let c ← holding [left, rv] (compareOp (cmOp op1) left rv)
      release [left, rv] [c]
      if ← holding [c, rv] (truthy c) then compareChain pos rv [cmOp op2] [eval r env] else pure c) fun x1 v => ?_
    refine (Sim.holding y.val.and1).bind fun y1 w => Sim.stand ?_
    rw [e0]
    refine (V1 x1 y1 v w).bind fun r1 c1 => Sim.relse ?_
    refine (Sim.holding sim_truthyV).bind fun t t' => ?_
    intro H ρ s R p
    obtain ⟨e1, e2⟩ : t' = t ∧ c1 = .bool t := p.2
    subst e1 e2
    cases t' with
    | false => exact wpAny_pure ⟨ρ, Full.refl _ _, R, .bool _⟩
    | true =>
      have W : Sim cx A (P.and (Amb.vr cx y1 w)) (compareChain pos w [cmOp op2] [eval r env]) ((evalE cx.T Φ c Γ).bnd fun z => (M.look (cmpV op2 y1 z)).bnd fun r => M.ret (Val.bool r)) (Amb.vr cx) :=
        (Sim.holding z.val.and1).bind fun z1 u => Sim.stand (Sim.oper (sim_cmp hu (fun _ _ p => p.1.2) fun _ _ p => p.2))
      exact W H ρ s R ⟨p.1.1.1.1, p.1.1.2⟩
  · rw [arm_isTrue_Compare, ev_cmp2]
    have em : markedEach [cmOp op1, cmOp op2] [m, r] (evalEach [m, r] env) = [eval m env, eval r env] := by
      show [eval m env, markedBehindIn (cmOp op2) r (eval r env)] = _
      rw [markedBehindIn_of_false (notSet_marks hn _)]
    rw [em, bnd_assoc]
    refine x.val.bind (f := fun left => do
      let rv ← holding [left] (eval m env)
      standAt pos
      let c ← holding [left, rv] (compareOp (cmOp op1) left rv)
      release [left, rv] [c]
      if ← holding [c, rv] (truthy c) then testChain pos rv [cmOp op2] [eval r env] else pure false) fun x1 v => ?_
    rw [bnd_assoc]
    refine (Sim.holding y.val.and1).bind fun y1 w => Sim.stand ?_
    rw [e0, bnd_assoc]
    refine (V1 x1 y1 v w).bind fun r1 c1 => Sim.relse ?_
    rw [bnd_assoc]
    refine (Sim.holding sim_truthyV).bind fun t t' => ?_
    intro H ρ s R p
    obtain ⟨e1, e2⟩ : t' = t ∧ c1 = .bool t := p.2
    subst e1 e2
    cases t' with
    | false => exact wpAny_pure ⟨ρ, Full.refl _ _, R, rfl⟩
    | true =>
      have W : Sim cx A (P.and (Amb.vr cx y1 w)) (testChain pos w [cmOp op2] [eval r env]) (((evalE cx.T Φ c Γ).bnd fun z => (M.look (cmpV op2 y1 z)).bnd fun r => M.ret (Val.bool r)).bnd truth) BV := by
        rw [bnd_assoc]
        have V2 : ∀ (z1 : Val) (u : Value), Sim cx A ((P.and (Amb.vr cx y1 w)).and (Amb.vr cx z1 u)) (operate [w, u] (compareOp (cmOp op2) w u)) ((M.look (cmpV op2 y1 z1)).bnd fun r => M.ret (Val.bool r)) (Amb.vr cx) :=
          fun z1 u => Sim.oper (sim_cmp hu (fun _ _ p => p.1.2) fun _ _ p => p.2)
        exact (Sim.holding z.val.and1).bind fun z1 u => Sim.stand ((V2 z1 u).bind fun _ _ => Sim.holding sim_truthyA)
      exact W H ρ s R ⟨p.1.1.1.1, p.1.1.2⟩
end
end Mine

-- part MCall
namespace Mine
open PySem

theorem look_some {α : Type} {f : Hp → Option α} {H : Hp} {a : α} (h : f H = some a) : M.look f H = .ok a H := by unfold M.look; rw [h]
theorem look_none {α : Type} {f : Hp → Option α} {H : Hp} (h : f H = none) : M.look f H = .bad := by unfold M.look; rw [h]
theorem blt_mem (f : BF) (h : f ≠ .sortedSet) : ((bfName f).1, bfVal f) ∈ bltTab := by
  unfold bltTab
  cases f <;> first
    | exact absurd rfl h
    | repeat (first | exact List.Mem.head _ | apply List.Mem.tail)
theorem ty_mem (t : Ty) (h : ∀ c, t ≠ .cls c) : (tyName t, tyVal t) ∈ bltTab := by
  unfold bltTab
  cases t <;> first
    | exact absurd rfl (h _)
    | repeat (first | exact List.Mem.head _ | apply List.Mem.tail)
theorem isi_mem : (("isinstance" : Str), Value.builtin "isinstance") ∈ bltTab := by
  unfold bltTab
  repeat (first | exact List.Mem.head _ | apply List.Mem.tail)

section
variable {cx : Cx} {N : Names} {A : Around} {P : Amb} {env : Env} {sc : Scope} {ns : List (Option Str)} {Γ : Env'} {Φ : Funs} {l : List Env}

theorem len2 {α : Type} {xs : List α} (h : xs.length = 2) : ∃ a b, xs = [a, b] := by
  match xs, h with
  | [a, b], _ => exact ⟨a, b, rfl⟩
/- the built-in functions -/
theorem sim_bfcall (hh : A.handled = none) (hu : A.units + 100 < cLine) (f : BF) (hf : f ≠ .sortedSet) {ms : List Val} {vs : List Value} (hl : ms.length = (bfName f).2) : Sim cx A (Amb.vrs cx ms vs) (call (bfVal f) vs) (bfV f ms) (Amb.vr cx) := by
  have one : ∀ {t : Sem Value} {m : Val → M Val}, ms.length = 1 → (∀ (a : Val) (v : Value), ms = [a] → vs = [v] → Sim cx A (Amb.vr cx a v) t (bfV f ms) (Amb.vr cx)) → Sim cx A (Amb.vrs cx ms vs) t (bfV f ms) (Amb.vr cx) := by
    intro t m h1 k H ρ s R p
    have p' : VRs cx ρ s.heap ms vs := p
    have hv := p'.length
    obtain ⟨a, rfl⟩ := List.length_eq_one_iff.mp h1
    obtain ⟨v, rfl, x⟩ := p'.one_inv
    exact k a v rfl rfl H ρ s R x
  have two : ∀ {t : Sem Value} {m : Val → M Val}, ms.length = 2 → (∀ (a b : Val) (v w : Value), ms = [a, b] → vs = [v, w] → Sim cx A ((Amb.vr cx a v).and (Amb.vr cx b w)) t (bfV f ms) (Amb.vr cx)) → Sim cx A (Amb.vrs cx ms vs) t (bfV f ms) (Amb.vr cx) := by
    intro t m h1 k H ρ s R p
    have p' : VRs cx ρ s.heap ms vs := p
    have hv := p'.length
    obtain ⟨a, b, rfl⟩ := len2 h1
    obtain ⟨v, w, rfl, x, y⟩ := p'.two_inv
    exact k a b v w rfl rfl H ρ s R ⟨x, y⟩
  cases f with
  | len => exact one (m := fun _ => .bad) hl fun a v e1 e2 => by subst e1 e2; exact sim_len fun _ _ p => p
  | range => exact one (m := fun _ => .bad) hl fun a v e1 e2 => by subst e1 e2; exact sim_range fun _ _ p => p
  | list => exact one (m := fun _ => .bad) hl fun a v e1 e2 => by subst e1 e2; exact sim_listOf hh fun _ _ p => p
  | max2 => exact two (m := fun _ => .bad) hl fun a b v w e1 e2 => by subst e1 e2; exact sim_max2 hh (fun _ _ p => p.1) fun _ _ p => p.2
  | sortedSet => exact absurd rfl hf

theorem eok_bf (B : Base cx N) (hh : A.handled = none) (hu : A.units + 100 < cLine) {f : BF} {x : Str} {xs : List Expr} {es : MEs} {np pos : Pos} (hg : isGlob sc x = true) (hx : (bfName f).1 = x) (hl : (bfName f).2 = xs.length) (hes : ckEs N sc ns es xs = true)
    (y : Sim cx A ((Amb.env cx env sc ns Γ).and (Amb.frames cx l)) (spliced (xs.map fun e => (false, eval e env))) (evalEs cx.T Φ es Γ) (Amb.vrs cx)) :
    EOk cx A ((Amb.env cx env sc ns Γ).and (Amb.frames cx l)) Φ env Γ (.bf f es) (.Call (.Name x np) xs [] pos) := by
  refine EOk.of ?_ rfl
  obtain ⟨mg, mb, ng, nb, _, _, _, q⟩ := B.ns
  intro H ρ s R p
  by_cases hf : f = .sortedSet
  · subst hf
    first | rw [ev_call] | rw [ev_new] | rw [ev_umeth] | rw [ev_bf] | rw [ev_isinst] | rw [ev_bm]
    show SimAt cx A (M.bnd _ (fun vs => bfV .sortedSet vs) H) _ _ ρ s
    have hx' : xs = [] := List.eq_nil_of_length_eq_zero hl.symm
    subst hx'
    obtain rfl := ckEs_nil hes
    trivial
  · have q12 : mg (bfName f).1 = none ∧ mb (bfName f).1 = some (bfVal f) := q _ (blt_mem f hf)
    obtain ⟨q1, q2⟩ := q12
    rw [hx] at q1 q2
    first | rw [ev_call] | rw [ev_new] | rw [ev_umeth] | rw [ev_bf] | rw [ev_isinst] | rw [ev_bm]
    refine SimK.mono (simK_args (f := bfVal f) (K := fun vs Q E s => wpAny (model cx.prog cx.w) A (call (bfVal f) vs) Q E s) (fun e => ckEs_nil (e ▸ hes)) R (y H ρ s R p) ?_ fun _ => monoK_wp _) ?_
    · intro ms vs H1 ρ1 s1 e1 F1 R1 vrs
      exact sim_bfcall hh hu f hf (by rw [evalEs_length hes e1, hl]) H1 ρ1 s1 R1 vrs
    · intro Q E h
      refine wpAny_Call_ofName (wp_glob R p.1.st hg ng nb (v := bfVal f) (.inr ⟨q1, q2⟩) ?_)
      rw [plainArgs_trees pos (ckEs_plain hes)]
      have hq : (∃ id, bfVal f = .builtin id) ∨ ∃ T, bfVal f = .type T := by
        cases f <;> first | exact absurd rfl hf | exact .inl ⟨_, rfl⟩ | exact .inr ⟨_, rfl⟩
      generalize bfVal f = bv at h hq ⊢
      rcases hq with ⟨id, rfl⟩ | ⟨T, rfl⟩
      · exact Calls.callWith_builtin (any_false _) (wpAny_mono h (fun a s₁ h₁ => by rw [h₁.1]; exact h₁.2) fun _ _ q => q)
      · exact PyProof.Rows.callWith_type (any_false _) (wpAny_mono h (fun a s₁ h₁ => by rw [h₁.1]; exact h₁.2) fun _ _ q => q)

/- isinstance with a built-in type -/
theorem eok_isi (B : Base cx N) {t : Ty} (ht : ∀ c, t ≠ .cls c) {a : ME} {f y : Str} {x : Expr} {fp yp pos : Pos} (hg : isGlob sc f = true) (hf : f = ("isinstance" : Str)) (hy : isGlob sc y = true) (hty : tyName t = y) (hp : notStar x = true)
    (z : EOk cx A ((Amb.env cx env sc ns Γ).and (Amb.frames cx l)) Φ env Γ a x) :
    EOk cx A ((Amb.env cx env sc ns Γ).and (Amb.frames cx l)) Φ env Γ (.isinst a t) (.Call (.Name f fp) [x, .Name y yp] [] pos) := by
  refine EOk.of ?_ rfl
  obtain ⟨mg, mb, ng, nb, _, _, _, q⟩ := B.ns
  intro H ρ s R p
  have q12 : mg ("isinstance" : Str) = none ∧ mb ("isinstance" : Str) = some (.builtin "isinstance") := q _ isi_mem
  have q34 : mg (tyName t) = none ∧ mb (tyName t) = some (tyVal t) := q _ (ty_mem t ht)
  obtain ⟨q1, q2⟩ := q12
  obtain ⟨q3, q4⟩ := q34
  rw [← hf] at q1 q2
  rw [hty] at q3 q4
  first | rw [ev_call] | rw [ev_new] | rw [ev_umeth] | rw [ev_bf] | rw [ev_isinst] | rw [ev_bm]
  refine SimAt.bindK (K' := fun Q E s => wpAny (model cx.prog cx.w) A (eval (.Call (.Name f fp) [x, .Name y yp] [] pos) env) Q E s) (K := fun v Q E s => wpAny (model cx.prog cx.w) A (eval (.Name y yp) env) (fun w s' => wpAny (model cx.prog cx.w) A (call (.builtin "isinstance") [v, w]) Q E s') E s) (z.val H ρ s R p) ?_ ?_ ?_
  · intro b v H1 ρ1 s1 _ F1 R1 vr
    have e1 := (p.1.full F1).st
    have ht2 : (isinstV cx.T b t) = M.look (fun H => (kdOf H b).map fun k => Val.bool (isKd t k)) := by
      cases t <;> first | rfl | exact absurd rfl (ht _)
    show SimK cx (isinstV cx.T b t H1) _ _ ρ1 s1
    rw [ht2]
    cases ek : kdOf H1 b with
    | none =>
      have : M.look (fun H => (kdOf H b).map fun k => Val.bool (isKd t k)) H1 = .bad := look_none (by show Option.map _ (kdOf H1 b) = none; rw [ek]; rfl)
      rw [this]; trivial
    | some k =>
      have : M.look (fun H => (kdOf H b).map fun k => Val.bool (isKd t k)) H1 = .ok (Val.bool (isKd t k)) H1 := look_some (by show Option.map _ (kdOf H1 b) = _; rw [ek]; rfl)
      rw [this]
      refine wp_glob R1 e1 hy ng nb (v := tyVal t) (.inr ⟨q3, q4⟩) ?_
      exact wp_isi R1 vr ek ht fun tk => ⟨ρ1, Full.refl _ _, R1.toks tk, .bool _⟩
  · exact fun v Q E Q' E' s h k1 k2 => wpAny_mono h (fun _ _ h' => wpAny_mono h' k1 k2) k2
  · intro Q E h
    refine wpAny_Call_ofName (wp_glob R p.1.st hg ng nb (v := .builtin "isinstance") (.inr ⟨q1, q2⟩) ?_)
    have pl : plainArgs env [x, .Name y yp] := ⟨starEach_plain hp, starEach_plain rfl, trivial⟩
    rw [plainArgs_trees pos pl]
    refine Calls.callWith_builtin (any_false _) (Calls.evalArgs_plain (Calls.spliced_cons (wpAny_mono h (fun v s' h' => ?_) fun _ _ q => q)))
    exact Calls.spliced_cons (wpAny_mono h' (fun w s'' h'' => Calls.spliced_nil h'') fun _ _ q => q)

theorem eok_sub (hu : A.units + 100 < cLine) {a i : ME} {v s : Expr} {pos : Pos} (x : EOk cx A P Φ env Γ a v) (y : EOk cx A P Φ env Γ i s) : EOk cx A P Φ env Γ (.sub a i) (.Subscript v s pos) := by
  refine EOk.of ?_ rfl
  intro H ρ st R p
  rw [ev_sub]
  refine SimAt.bindK (K' := fun Q E s' => wpAny (model cx.prog cx.w) A (eval (.Subscript v s pos) env) Q E s') (K := fun o Q E s' => wpAny (model cx.prog cx.w) A (eval s env) (fun i s'' => wpAny (model cx.prog cx.w) A (PyProof.Rows.subscriptTail v s o i) Q E s'') E s') (x.val H ρ st R p) ?_ ?_ ?_
  · intro b o H1 ρ1 s1 _ F1 R1 vr
    refine SimAt.bindK (K' := fun Q E s' => wpAny (model cx.prog cx.w) A (eval s env) (fun i s'' => wpAny (model cx.prog cx.w) A (PyProof.Rows.subscriptTail v s o i) Q E s'') E s') (K := fun i Q E s' => wpAny (model cx.prog cx.w) A (PyProof.Rows.subscriptTail v s o i) Q E s') (y.val H1 ρ1 s1 R1 (P.st _ _ _ _ p F1)) ?_ (fun _ => monoK_wp _) fun Q E h => h
    intro b2 i2 H2 ρ2 s2 _ F2 R2 vr2
    exact sim_subTail (P := (Amb.vr cx b o).and (Amb.vr cx b2 i2)) hu (fun _ _ p => p.1) (fun _ _ p => p.2) H2 ρ2 s2 R2 ⟨vr.step F2.step, vr2⟩
  · exact fun v Q E Q' E' s h k1 k2 => wpAny_mono h (fun _ _ h' => wpAny_mono h' k1 k2) k2
  · exact fun Q E h => PyProof.Rows.Subscript_ h
end
end Mine

-- part MComp
namespace Mine
open PySem

/-! ## the closure -/
noncomputable def cloOf (env : Env) : List (Str × NameKind) → List (Str × Addr) → List (Str × Addr)
  | [], acc => acc
  | (n, k) :: r, acc => if k == .free then cloOf env r ((n, (env.cells.lookup n).getD 0) :: acc) else cloOf env r acc
theorem closureFor_eq {scope : Scope} {env : Env} (h : ∀ p ∈ scope.names, p.2 = .free → ∃ c, env.cells.lookup p.1 = some c) : closureFor scope env = pure (cloOf env scope.names []) := by
  have gen : ∀ (names : List (Str × NameKind)) (acc : List (Str × Addr)), (∀ p ∈ names, p.2 = .free → ∃ c, env.cells.lookup p.1 = some c) →
      (forIn names acc fun x cs => if (x.2 == .free) = true then (do let c ← cellOf env x.1; pure (ForInStep.yield ((x.1, c) :: cs))) else pure (ForInStep.yield cs) : Sem _) = pure (cloOf env names acc) := by
    intro names
    induction names with
    | nil => intro acc _; rfl
    | cons p r ih =>
      intro acc hp
      obtain ⟨n, k⟩ := p
      rw [List.forIn_cons]
      unfold cloOf
      by_cases q : (k == .free) = true
      · obtain ⟨c, hc⟩ := hp (n, k) (.head _) (by simpa using q)
        have hc' : env.cells.lookup n = some c := hc
        have e : cellOf env n = pure c := by unfold cellOf; rw [hc']
        simp only [q, if_true, e, pure_bind, hc', Option.getD_some]
        exact ih _ fun p hp' => hp p (.tail _ hp')
      · simp only [q, if_false, pure_bind]
        exact ih _ fun p hp' => hp p (.tail _ hp')
  unfold closureFor
  have := gen scope.names [] h
  simp only [bind_pure] at this ⊢
  rw [← this]
set_option tactic.hygienic true in
theorem clo_val {env : Env} : ∀ {names : List (Str × NameKind)} {acc : List (Str × Addr)} {y : Str} {c : Addr}, (∀ z d, acc.lookup z = some d → d = (env.cells.lookup z).getD 0) → (cloOf env names acc).lookup y = some c → c = (env.cells.lookup y).getD 0
  | [], acc, y, c, ha, h => ha y c h
  | (n, k) :: r, acc, y, c, ha, h => by
    unfold cloOf at h
    split at h
    · refine clo_val (fun z d hd => ?_) h
      rw [List.lookup_cons] at hd
      split at hd
      · rename_i e
        have : z = n := by simpa using e
        subst this
        cases hd; rfl
      · exact ha z d hd
    · exact clo_val ha h
set_option tactic.hygienic true in
theorem clo_has {env : Env} : ∀ {names : List (Str × NameKind)} {acc : List (Str × Addr)} {y : Str}, ((y, NameKind.free) ∈ names ∨ (acc.lookup y).isSome = true) → ((cloOf env names acc).lookup y).isSome = true
  | [], _, _, h => by
    rcases h with h | h
    · cases h
    · exact h
  | (n, k) :: r, acc, y, h => by
    unfold cloOf
    split
    · rename_i hk
      refine clo_has ?_
      rcases h with h | h
      · rcases List.mem_cons.mp h with e | h
        · cases e; right; simp
        · exact .inl h
      · right
        rw [List.lookup_cons]
        split
        · rfl
        · exact h
    · rename_i hk
      refine clo_has ?_
      rcases h with h | h
      · rcases List.mem_cons.mp h with e | h
        · cases e; simp at hk
        · exact .inl h
      · exact .inr h
set_option tactic.hygienic true in
theorem clo_mem {env : Env} : ∀ {names : List (Str × NameKind)} {acc : List (Str × Addr)} {y : Str} {c : Addr}, (cloOf env names acc).lookup y = some c → (y, NameKind.free) ∈ names ∨ (acc.lookup y).isSome = true
  | [], _, _, _, h => by right; have h' : List.lookup _ _ = _ := h; unfold cloOf at h'; rw [h']; rfl
  | (n, k) :: r, acc, y, c, h => by
    unfold cloOf at h
    split at h
    · rename_i hk
      rcases clo_mem h with h | h
      · exact .inl (.tail _ h)
      · rw [List.lookup_cons] at h
        split at h
        · rename_i e
          have : y = n := by simpa using e
          subst this
          have : k = .free := by simpa using hk
          subst this
          exact .inl (.head _)
        · exact .inr h
    · rcases clo_mem h with h | h
      · exact .inl (.tail _ h)
      · exact .inr h
theorem cellsFrom_append : ∀ (names : List (Str × NameKind)) (n : Nat) (acc : List (Str × Addr)), cellsFrom n names acc = cellsFrom n names [] ++ acc
  | [], _, _ => rfl
  | (y, k) :: r, n, acc => by
    unfold cellsFrom
    split
    · rw [cellsFrom_append r (n + 1) ((y, n) :: acc), cellsFrom_append r (n + 1) [(y, n)], List.append_assoc]; rfl
    · exact cellsFrom_append r n acc
set_option tactic.hygienic true in
theorem cellsFrom_mem : ∀ {names : List (Str × NameKind)} {n : Nat} {acc : List (Str × Addr)} {y : Str} {c : Addr}, (y, c) ∈ cellsFrom n names acc → (y, NameKind.cell) ∈ names ∨ (y, c) ∈ acc
  | [], _, _, _, _, h => .inr h
  | (z, k) :: r, n, acc, y, c, h => by
    unfold cellsFrom at h
    split at h
    · rename_i hk
      rcases cellsFrom_mem h with h | h
      · exact .inl (.tail _ h)
      · rcases List.mem_cons.mp h with e | h
        · cases e
          have : k = .cell := by simpa using hk
          subst this
          exact .inl (.head _)
        · exact .inr h
    · rcases cellsFrom_mem h with h | h
      · exact .inl (.tail _ h)
      · exact .inr h
theorem relabel_lookup {env : Env} : ∀ (names : List (Str × NameKind)) (y : Str), (names.map fun (n, k) => if (k == NameKind.free && env.scope.kind == .function && env.kindOf n == some .cell) then (n, NameKind.cell) else (n, k)).lookup y =
    (names.lookup y).map fun k => if (k == NameKind.free && env.scope.kind == .function && env.kindOf y == some .cell) = true then NameKind.cell else k
  | [], _ => rfl
  | (n, k) :: r, y => by
    have ih := @relabel_lookup env r y
    show List.lookup y ((if (k == NameKind.free && env.scope.kind == .function && env.kindOf n == some .cell) = true then (n, NameKind.cell) else (n, k)) :: _) = _
    cases hx : y == n with
    | true =>
      have : y = n := by simpa using hx
      subst this
      by_cases hc : (k == NameKind.free && env.scope.kind == .function && env.kindOf y == some .cell) = true
      · rw [if_pos hc]
        simp only [List.lookup_cons, beq_self_eq_true, Option.map_some]
        rw [if_pos hc]
      · rw [if_neg hc]
        simp only [List.lookup_cons, beq_self_eq_true, Option.map_some]
        rw [if_neg hc]
    | false =>
      by_cases hc : (k == NameKind.free && env.scope.kind == .function && env.kindOf n == some .cell) = true
      · rw [if_pos hc]; simp only [List.lookup_cons, hx]; exact ih
      · rw [if_neg hc]; simp only [List.lookup_cons, hx]; exact ih

/- the comprehension's own frame -/
noncomputable def compEnv (csc : Scope) (env : Env) (L : Addr) : Env :=
  { scope := relabel csc env, locals := L, globals := env.globals, cells := cellsFrom (L + 1) csc.names (cloOf env csc.names []), qual := env.qual, func := none, code := env.code, frame := env.frame, builtins := env.builtins }
noncomputable def compHeap (csc : Scope) (h : Heap) : Heap := pushCells (h.push { cls := .type "dict", data := .dict #[] }) csc.names

theorem wpAny_newCompEnv {M : Model} {A : Around} {E : Value → Shared → Prop} {s : Shared} {env : Env} {csc : Scope} {Q : Env → Shared → Prop} (cl : List (Str × Addr))
    (h : Q (newEnv csc s.heap.objs.size env.globals (cellsFrom (s.heap.objs.size + 1) csc.names cl) env.qual none .none (some env) builtinsNs) { s with heap := compHeap csc s.heap }) :
    wpAny M A (newFunctionEnv csc env.globals cl [] env.qual none .none (some env)) Q E s := by
  simp only [newFunctionEnv, Option.isSome_some, if_true]
  refine wpAny_bind (wpAny_alloc ?_)
  refine wpAny_bind (wpAny_layCells _ (fun name kind cells => by cases hkc : kind == NameKind.cell <;> simp [hkc]) _ _ _ _ ?_)
  rw [show ({ s with heap := s.heap.push { cls := .type "dict", data := .dict #[] } } : Shared).heap.objs.size = s.heap.objs.size + 1 from Heap.size_push ..]
  exact wpAny_bind (wpAny_pure (wpAny_pure h))

section
variable {cx : Cx} {N : Names} {A : Around} {env : Env} {sc csc : Scope} {ns : List (Option Str)} {Γ : Env'} {H : Hp} {ρ : Rho} {s : Shared} {x : Str}

set_option tactic.hygienic true in
theorem compOk_parts (h : compOk sc csc x = true) : csc.kind = .function ∧ (csc.names.lookup x = some .local ∨ csc.names.lookup x = some .cell) ∧
    (∀ p ∈ csc.names, csc.names.lookup p.1 = some p.2 ∧ (p.2 = .free → sc.names.lookup p.1 = some .cell ∨ sc.names.lookup p.1 = some .free)) := by
  unfold compOk at h
  simp only [Bool.and_eq_true] at h
  obtain ⟨⟨h1, h2⟩, h3⟩ := h
  refine ⟨?_, ?_, fun p hp => ?_⟩
  · split at h1
    · assumption
    · cases h1
  · split at h2
    · left; assumption
    · right; assumption
    · cases h2
  · have h4 := List.all_eq_true.mp h3 p hp
    obtain ⟨y, k⟩ := p
    cases k <;> simp only at h4
    case «local» =>
      split at h4
      · rename_i e; exact ⟨e, fun q => nomatch q⟩
      · cases h4
    case cell =>
      split at h4
      · rename_i e; exact ⟨e, fun q => nomatch q⟩
      · cases h4
    case free =>
      rw [Bool.and_eq_true] at h4
      obtain ⟨h4, h5⟩ := h4
      refine ⟨?_, fun _ => ?_⟩
      · split at h4
        · assumption
        · cases h4
      · split at h5
        · left; assumption
        · right; assumption
        · cases h5
    case globalImplicit =>
      split at h4
      · rename_i e; exact ⟨e, fun q => nomatch q⟩
      · cases h4
    all_goals cases h4

theorem compHeap_keep (csc : Scope) (h : Heap) : ∀ b o, h.get? b = some o → (compHeap csc h).get? b = some o := fun b o e => pushCells_keeps _ _ b o (Heap.get?_push_of_some _ e)

set_option tactic.hygienic true in
theorem comp_env (R : Rel cx H ρ s) (e0 : EnvOk cx env sc ns Γ ρ s.heap) (hc : compOk sc csc x = true) (hΓ : Γ.length = ns.length) :
    EnvOk cx (compEnv csc env s.heap.objs.size) csc (inner csc ns ++ [some x]) (Γ ++ [none]) ρ (compHeap csc s.heap) ∧
    (∀ q, csc.names.lookup x = some .cell → (compEnv csc env s.heap.objs.size).cells.lookup x = some q → s.heap.get? q = none) := by
  obtain ⟨c1, c2, c3⟩ := compOk_parts hc
  have F : Full ρ s.heap ρ (compHeap csc s.heap) := Full.more (compHeap_keep csc s.heap)
  have lvB : Live cx.h₀ s.heap := fun b o e => ⟨o, R.base b o e⟩
  have ok := cellsFrom_ok csc.names (s.heap.push { cls := .type "dict", data := .dict #[] }) (s.heap.objs.size + 1) [] ⟨fun _ _ hm => (nomatch hm), List.Pairwise.nil⟩ (by rw [Heap.size_push]; exact Nat.le_refl _)
  rw [Heap.size_push] at ok
  have hcells : (compEnv csc env s.heap.objs.size).cells = cellsFrom (s.heap.objs.size + 1) csc.names [] ++ cloOf env csc.names [] := cellsFrom_append _ _ _
  have hlook : ∀ y c, (compEnv csc env s.heap.objs.size).cells.lookup y = some c →
      ((cellsFrom (s.heap.objs.size + 1) csc.names []).lookup y = some c ∧ (compHeap csc s.heap).IsCell c none ∧ s.heap.get? c = none ∧ csc.names.lookup y = some .cell) ∨
      (env.cells.lookup y = some c ∧ csc.names.lookup y = some .free) := by
    intro y c h
    rw [hcells, List.lookup_append] at h
    cases q : (cellsFrom (s.heap.objs.size + 1) csc.names []).lookup y with
    | some d =>
      rw [q] at h
      cases h
      have m := ok.empty y c (mem_of_lookup q)
      refine .inl ⟨rfl, m.1, fresh_le (Nat.le_of_succ_le m.2), ?_⟩
      rcases cellsFrom_mem (mem_of_lookup q) with w | w
      · exact (c3 _ w).1
      · cases w
    | none =>
      rw [q] at h
      have h' : (cloOf env csc.names []).lookup y = some c := h
      have m := clo_mem h'
      have mf : (y, NameKind.free) ∈ csc.names := by
        rcases m with m | m
        · exact m
        · cases m
      obtain ⟨l1, l2⟩ := c3 _ mf
      obtain ⟨d, hd⟩ := e0.st.hasCell y (l2 rfl)
      have v := clo_val (acc := []) (fun z d h => by simp at h) h'
      rw [hd] at v
      exact .inr ⟨by rw [hd, v]; rfl, l1⟩
  have hfree : ∀ y, csc.names.lookup y = some .free → ∃ c, (compEnv csc env s.heap.objs.size).cells.lookup y = some c ∧ env.cells.lookup y = some c := by
    intro y hy
    have := clo_has (env := env) (acc := []) (.inl (mem_of_lookup hy))
    obtain ⟨c, h⟩ := Option.isSome_iff_exists.mp this
    have hn : (cellsFrom (s.heap.objs.size + 1) csc.names []).lookup y = none := by
      cases q : (cellsFrom (s.heap.objs.size + 1) csc.names []).lookup y with
      | none => rfl
      | some d =>
        rcases cellsFrom_mem (mem_of_lookup q) with w | w
        · have := (c3 _ w).1; rw [hy] at this; cases this
        · cases w
    have hl : (compEnv csc env s.heap.objs.size).cells.lookup y = some c := by rw [hcells, List.lookup_append, hn]; exact h
    refine ⟨c, hl, ?_⟩
    rcases hlook y c hl with ⟨_, _, _, w⟩ | ⟨w, _⟩
    · rw [hy] at w; cases w
    · exact w
  have hkind : ∀ y, (compEnv csc env s.heap.objs.size).kindOf y = (csc.names.lookup y).map fun k => if (k == NameKind.free && env.scope.kind == .function && env.kindOf y == some .cell) = true then NameKind.cell else k := fun y => relabel_lookup csc.names y
  have locNs : (compHeap csc s.heap).Ns s.heap.objs.size fun _ => none := (Heap.Ns.new s.heap (.type "dict")).keeps (pushCells_keeps _ _)
  refine ⟨⟨⟨c1, e0.st.glob, e0.st.blt, fun y k hy => ?_, ⟨_, locNs⟩, R.fresh_not (fresh_none _), lvB.none (fresh_none _), fun y c hy => ?_, fun y hy => ?_, fun y z c hy hz => ?_⟩, by unfold inner; rw [List.length_append, List.length_append, List.length_map, hΓ]; rfl, fun i y mv hi hm => ?_⟩, fun q hx hq => ?_⟩
  · rw [hkind, hy]
    cases k
    case free =>
      simp only [Option.map_some, KindOk]
      split
      · exact .inr rfl
      · exact .inl rfl
    all_goals first | rfl | trivial
  · rcases hlook y c hy with ⟨_, w1, w2, _⟩ | ⟨w, _⟩
    · exact ⟨⟨_, w1⟩, R.fresh_not w2, lvB.none w2⟩
    · obtain ⟨⟨v, hv⟩, n, b⟩ := e0.st.cells y c w
      exact ⟨⟨v, IsCell_keep hv (F.data n)⟩, n, b⟩
  · rcases hy with hy | hy
    · rw [hcells, List.lookup_append]
      obtain ⟨c, h⟩ := Option.isSome_iff_exists.mp (cells_has (n := s.heap.objs.size + 1) (acc := []) (.inl (mem_of_lookup hy)))
      exact ⟨c, by rw [h]; rfl⟩
    · obtain ⟨c, h, _⟩ := hfree y hy
      exact ⟨c, h⟩
  · rcases hlook y c hy with ⟨w0, w1, w2, _⟩ | ⟨w, _⟩ <;> rcases hlook z c hz with ⟨u0, u1, u2, _⟩ | ⟨u, _⟩
    · exact name_of_addr ok.apart (mem_of_lookup w0) (mem_of_lookup u0)
    · obtain ⟨⟨v, o, ho, _⟩, _⟩ := e0.st.cells z c u
      rw [w2] at ho; cases ho
    · obtain ⟨⟨v, o, ho, _⟩, _⟩ := e0.st.cells y c w
      rw [u2] at ho; cases ho
    · exact e0.st.apart y z c w u
  · by_cases lt : i < ns.length
    · rw [List.getElem?_append_left (by unfold inner; rw [List.length_map]; exact lt)] at hi
      rw [List.getElem?_append_left (by rw [hΓ]; exact lt)] at hm
      unfold inner at hi
      rw [List.getElem?_map] at hi
      cases hn : ns[i]? with
      | none => rw [hn] at hi; cases hi
      | some oy =>
        rw [hn] at hi
        cases oy with
        | none => cases hi
        | some y' =>
          simp only [Option.map_some, Option.some.injEq] at hi
          split at hi
          · rename_i hf
            cases hi
            obtain ⟨v, hv, vr⟩ := e0.vals i y mv hn hm
            obtain ⟨c, k1, k2⟩ := hfree y hf
            have ks : env.kindOf y = some .cell ∨ env.kindOf y = some .free := by
              rcases (c3 _ (mem_of_lookup hf)).2 rfl with w | w
              · exact .inl (e0.st.kinds y _ w)
              · rcases e0.st.kinds y _ w with w | w
                · exact .inr w
                · exact .inl w
            have hcell : s.heap.IsCell c (some v) := by
              rcases hv with ⟨kd, _⟩ | ⟨_, c', hc', hv⟩
              · rcases ks with w | w <;> rw [w] at kd <;> cases kd
              · rw [k2] at hc'; cases hc'; exact hv
            refine ⟨v, .inr ⟨?_, c, k1, hcell.keeps (compHeap_keep csc s.heap)⟩, vr.step F.step⟩
            rw [hkind, hf]
            simp only [Option.map_some]
            split
            · exact .inl rfl
            · exact .inr rfl
          · cases hi
    · exfalso
      rw [List.getElem?_append_right (by rw [hΓ]; omega)] at hm
      cases q : i - Γ.length with
      | zero => rw [q] at hm; simp at hm
      | succ n => rw [q] at hm; simp at hm
  · rcases hlook x q hq with ⟨_, _, w, _⟩ | ⟨_, w⟩
    · exact w
    · rw [hx] at w; cases w
end
end Mine

-- part MLoop
namespace Mine
open PySem

section
variable {cx : Cx} {N : Names} {A : Around} {env : Env} {sc : Scope} {ns : List (Option Str)} {Γ : Env'} {H : Hp} {ρ ρ' : Rho} {s : Shared}

/- an object that is new since h is turned -/
theorem Full.fresh {h h1 h2 : Heap} {q : Addr} (F : Full ρ h ρ' h1) (hq : h.get? q = none) (hs : ∀ b o, b ≠ q → h1.get? b = some o → h2.get? b = some o) : Full ρ h ρ' h2 := by
  have ne : ∀ b o, h.get? b = some o → b ≠ q := fun b o e w => by rw [w, hq] at e; cases e
  refine ⟨F.grow, fun b o e n => ?_, fun b o e => ?_⟩
  · obtain ⟨o', e', u⟩ := F.keep b o e n
    exact ⟨o', hs b o' (ne b o e) e', u⟩
  · obtain ⟨o', e'⟩ := F.live b o e
    exact ⟨o', hs b o' (ne b o e) e'⟩
theorem Full.addOwn {h h1 : Heap} {p : Addr × Addr} (F : Full ρ h ρ' h1) (hp : h.get? p.1 = none ∧ h.get? p.2 = none) : Full ρ h (ρ' ++ [p]) h1 := by
  obtain ⟨e, rfl, he⟩ := F.grow
  refine ⟨⟨e ++ [p], by rw [List.append_assoc], fun q hq => ?_⟩, F.keep, F.live⟩
  rcases List.mem_append.mp hq with hq | hq
  · exact he q hq
  · rw [List.mem_singleton.mp hq]; exact hp

/- an object that is no part of the frame is turned -/
theorem EnvOk.but {h h' : Heap} {q : Addr} (x : EnvOk cx env sc ns Γ ρ h) (hs : ∀ b o, b ≠ q → h.get? b = some o → h'.get? b = some o) (n1 : q ≠ env.locals) (n2 : ∀ y, env.cells.lookup y ≠ some q) (st : Step ρ h ρ h') : EnvOk cx env sc ns Γ ρ h' := by
  have kl : ∀ o, h.get? env.locals = some o → ∃ o', h'.get? env.locals = some o' ∧ o'.data = o.data := fun o e => ⟨o, hs _ o (fun w => n1 w.symm) e, rfl⟩
  have kc : ∀ y c, env.cells.lookup y = some c → ∀ o, h.get? c = some o → ∃ o', h'.get? c = some o' ∧ o'.data = o.data := fun y c hc o e => ⟨o, hs _ o (fun w => n2 y (w ▸ hc)) e, rfl⟩
  obtain ⟨m, hm⟩ := x.st.loc
  refine ⟨⟨x.st.fn, x.st.glob, x.st.blt, x.st.kinds, ⟨m, Heap_Ns_keep hm kl⟩, x.st.locN, x.st.locB, fun y c hc => ?_, x.st.hasCell, x.st.apart⟩, x.len, fun i y mv hi hm => ?_⟩
  · obtain ⟨⟨v, hv⟩, a, b⟩ := x.st.cells y c hc
    exact ⟨⟨v, IsCell_keep hv (kc y c hc)⟩, a, b⟩
  · obtain ⟨v, hv, r⟩ := x.vals i y mv hi hm
    refine ⟨v, ?_, r.step st⟩
    rcases hv with ⟨k, m, hm, e⟩ | ⟨k, c, hc, e⟩
    · exact .inl ⟨k, m, Heap_Ns_keep hm kl, e⟩
    · exact .inr ⟨k, c, hc, IsCell_keep e (kc y c hc)⟩

theorem Rel.adopt (R : Rel cx H ρ s) {D : Addr} {vs : List Value} {n : Nat} {xs : List Val} (e : s.heap.get? D = some (listO vs n)) (r : VRs cx ρ s.heap xs vs) (z : xs.length ≤ sizeLine) (no : ¬ Owned ρ D) (nb : cx.h₀.get? D = none) :
    Rel cx (H ++ [.list xs]) (ρ ++ [(D, D)]) s ∧ VR cx (ρ ++ [(D, D)]) s.heap (.loc H.length) (.ref D) := by
  have notF : ¬ Fixed (listO vs n) := listO_not.1
  have notC : ∀ C, ¬ IsExcO (listO vs n) C := listO_not.2
  have own : ∀ b, ¬ Owned ρ b → b ≠ D → ¬ Owned (ρ ++ [(D, D)]) b := fun b nb ne ⟨p, hp, h⟩ => by
    rcases List.mem_append.mp hp with hp | hp
    · exact nb ⟨p, hp, h⟩
    · rw [List.mem_singleton.mp hp] at h
      rcases h with h | h <;> exact ne h
  have st : Step ρ s.heap (ρ ++ [(D, D)]) s.heap := ⟨⟨_, rfl⟩, fun b o eb f nb => ⟨eb, own b nb fun w => by rw [w, e] at eb; cases eb; exact notF f⟩, fun b o C eb c nb => ⟨o, eb, c, own b nb fun w => by rw [w, e] at eb; cases eb; exact notC C c⟩⟩
  have nD : ∀ p ∈ ρ, p.1 ≠ D ∧ p.2 ≠ D := fun p hp => ⟨fun w => no ⟨p, hp, .inl w.symm⟩, fun w => no ⟨p, hp, .inr w.symm⟩⟩
  have at' : ∀ {i : Nat} {q : Addr × Addr}, (ρ ++ [(D, D)])[i]? = some q → ρ[i]? = some q ∨ (i = ρ.length ∧ q = (D, D)) := by
    intro i q h
    by_cases lt : i < ρ.length
    · rw [List.getElem?_append_left lt] at h; exact .inl h
    · have hl' := (List.getElem?_eq_some_iff.mp h).1
      have le : i = ρ.length := by rw [List.length_append] at hl'; simp at hl'; omega
      subst le
      rw [List.getElem?_append_right (Nat.le_refl _)] at h
      simp at h
      exact .inr ⟨rfl, h.symm⟩
  refine ⟨⟨by rw [List.length_append, List.length_append, R.len]; rfl, fun l ob q hl hq => ?_, fun i j q r hij hi hj => ?_, fun q hq => ?_, R.base, R.sys, R.rest⟩, ?_⟩
  · rcases at' hq with hq | ⟨rfl, rfl⟩
    · have lt : l < H.length := by rw [R.len]; exact (List.getElem?_eq_some_iff.mp hq).1
      rw [List.getElem?_append_left lt] at hl
      exact (R.objs l ob q hl hq).step st fun b ob _ e => e
    · rw [← R.len, List.getElem?_append_right (Nat.le_refl _)] at hl
      simp at hl
      subst hl
      exact .list e (r.step st) z
  · rcases at' hi with hi' | ⟨hi', eq⟩ <;> rcases at' hj with hj' | ⟨hj', er⟩
    · exact R.apart i j q r hij hi' hj'
    · have q := nD _ (List.mem_of_getElem? hi'); rw [er]; exact ⟨⟨q.1, q.1⟩, q.2, q.2⟩
    · have q := nD _ (List.mem_of_getElem? hj'); rw [eq]; exact ⟨⟨q.1.symm, q.2.symm⟩, q.1.symm, q.2.symm⟩
    · exact absurd (hi'.trans hj'.symm) hij
  · rcases List.mem_append.mp hq with hq | hq
    · exact R.new q hq
    · rw [List.mem_singleton.mp hq]; exact ⟨nb, nb⟩
  · rw [R.len]
    exact VR.loc (p := (D, D)) (by rw [List.getElem?_append_right (Nat.le_refl _)]; simp)

/-! ## the loop of a comprehension -/
structure CInv (cx : Cx) (ρ₁ : Rho) (h₁ : Heap) (D I : Addr) (cenv : Env) (csc : Scope) (ns' : List (Option Str)) (Γ : Env') (xs : List Val) (src : Option Nat) (i : Nat) (done : List Val) (H : Hp) (ρ : Rho) (s : Shared) : Prop where
  full : Full ρ₁ h₁ ρ s.heap
  rel : Rel cx H ρ s
  env : ∃ o, EnvOk cx cenv csc ns' (Γ ++ [o]) ρ s.heap
  it : ItOk cx xs I i ρ s.heap src
  acc : ∃ vs n, s.heap.get? D = some (listO vs n) ∧ VRs cx ρ s.heap done vs
  nD : ¬ Owned ρ D
  nI : ¬ Owned ρ I

variable {Φ : Funs} {l : List Env} {csc : Scope} {x : Str} {cond : MEo} {elt : ME} {ifs : List Expr} {e : Expr}

noncomputable def stepOf (T : Tab) (Φ : Funs) (cond : MEo) (elt : ME) (Γ : Env') (x : Val) : M (Option Val) := (evalC T Φ cond (Γ ++ [some x])).bnd fun b => match b with
  | true => (evalE T Φ elt (Γ ++ [some x])).bnd fun y => .ret (some y)
  | false => .ret none

theorem append_at {D : Addr} {vs : List Value} {n : Nat} {v : Value} {Q : Value → Shared → Prop} {E : Value → Shared → Prop} (g : s.heap.get? D = some (listO vs n)) (z : vs.length ≤ sizeLine)
    (k : ∀ h' n', h'.get? D = some (listO (vs ++ [v]) n') → Heap.SameBut D s.heap h' → Q .none { s with heap := h' }) : wpAny (model cx.prog cx.w) A (call (.builtin "list.append") [.ref D, v]) Q E s := by
  refine call_meets F.slot_list_append ⟨_, g, rfl⟩ F.entry_list_append (F.args_list_append_2 _ _) (list_append D vs.toArray n v (by simpa using z)) ⟨g, ?_⟩
  obtain ⟨n', e⟩ := mapSeq_list vs n (fun x => x.push v)
  refine k _ n' ?_ (Heap.SameBut.update ..)
  rw [Heap.get?_update_self _ g (by rw [e]; rfl), e]
  simp

theorem compL_nil {c : Hp → Bool} {f : Val → M (Option Val)} {H H' : Hp} {r : List Val} (h : compL c f [] H = .ok r H') : c H = true ∧ r = [] ∧ H = H' := by
  have h : (if c H = true then Res.ok [] H else .bad) = Res.ok r H' := h
  by_cases q : c H = true
  · rw [if_pos q] at h; cases h; exact ⟨q, rfl, rfl⟩
  · rw [if_neg q] at h; cases h
theorem compL_cons {c : Hp → Bool} {f : Val → M (Option Val)} {m : Val} {xs : List Val} {H H' : Hp} {rest : List Val} (h : compL c f (m :: xs) H = .ok rest H') :
    c H = true ∧ ∃ r H3, f m H = .ok r H3 ∧ ∃ rest', compL c f xs H3 = .ok rest' H' ∧ rest = (match r with | some y => y :: rest' | none => rest') := by
  unfold compL at h
  by_cases q : c H = true
  · rw [if_pos q] at h
    refine ⟨q, ?_⟩
    cases e1 : f m H with
    | bad => rw [bnd_bad e1] at h; cases h
    | exc c H3 => rw [bnd_exc e1] at h; cases h
    | ok r H3 =>
      rw [bnd_ok e1] at h
      cases e2 : compL c f xs H3 with
      | bad => rw [bnd_bad e2] at h; cases h
      | exc c H4 => rw [bnd_exc e2] at h; cases h
      | ok rest' H4 =>
        rw [bnd_ok e2] at h
        cases h
        exact ⟨r, H3, rfl, rest', e2, rfl⟩
  · rw [if_neg q] at h; cases h
theorem stepOf_ok {T : Tab} {m : Val} {r : Option Val} {H H3 : Hp} (h : stepOf T Φ cond elt Γ m H = .ok r H3) :
    ∃ b H4, evalC T Φ cond (Γ ++ [some m]) H = .ok b H4 ∧ ((b = false ∧ r = none ∧ H4 = H3) ∨ (b = true ∧ ∃ y, evalE T Φ elt (Γ ++ [some m]) H4 = .ok y H3 ∧ r = some y)) := by
  unfold stepOf at h
  cases e3 : evalC T Φ cond (Γ ++ [some m]) H with
  | bad => rw [bnd_bad e3] at h; cases h
  | exc c H4 => rw [bnd_exc e3] at h; cases h
  | ok b H4 =>
    rw [bnd_ok e3] at h
    refine ⟨b, H4, rfl, ?_⟩
    cases b with
    | false => cases h; exact .inl ⟨rfl, rfl, rfl⟩
    | true =>
      refine .inr ⟨rfl, ?_⟩
      dsimp only at h
      cases e4 : evalE T Φ elt (Γ ++ [some m]) H4 with
      | bad => rw [bnd_bad e4] at h; cases h
      | exc c H5 => rw [bnd_exc e4] at h; cases h
      | ok y H5 => rw [bnd_ok e4] at h; cases h; exact ⟨y, rfl, rfl⟩
theorem comp_loop {ρ₁ : Rho} {s₁ : Shared} {D I : Addr} {cenv : Env} {xs ys : List Val} {src : Option Nat} {H₁ H₂ : Hp} {px pos : Pos} {iter : Expr} {R : Result → Shared → Prop} (hh : A.handled = none)
    (hD : s₁.heap.get? D = none) (hI : s₁.heap.get? I = none) (hDI : D ≠ I) (hC : s₁.heap.get? cenv.locals = none) (hX : ∀ q, csc.names.lookup x = some .cell → cenv.cells.lookup x = some q → s₁.heap.get? q = none)
    (hnd : ∀ (i j : Nat) (y : Str), (inner csc ns ++ [some x])[i]? = some (some y) → (inner csc ns ++ [some x])[j]? = some (some y) → i = j) (hΓ : Γ.length = ns.length) (hxk : csc.names.lookup x = some .local ∨ csc.names.lookup x = some .cell)
    (fr : FramesOk cx l ρ₁ s₁.heap) (lvB : Live cx.h₀ s₁.heap)
    (tests : ∀ Γ' : Env', Γ'.length = (inner csc ns ++ [some x]).length → Sim cx A ((Amb.env cx cenv csc (inner csc ns ++ [some x]) Γ').and (Amb.frames cx l)) (forIn ifs true fun c r => if r = true then do let ok ← isTrue c cenv (eval c cenv); pure (ForInStep.yield ok) else pure (ForInStep.yield r)) (evalC cx.T Φ cond Γ') BV)
    (elts : ∀ Γ' : Env', Γ'.length = (inner csc ns ++ [some x]).length → Sim cx A ((Amb.env cx cenv csc (inner csc ns ++ [some x]) Γ').and (Amb.frames cx l)) (eval e cenv) (evalE cx.T Φ elt Γ') (Amb.vr cx))
    (hz : ys.length < sizeLine) {s : Shared} {ρ : Rho} (ci : CInv cx ρ₁ s₁.heap D I cenv csc (inner csc ns ++ [some x]) Γ xs src 0 [] H₁ ρ s) (hres : compL (chk src xs) (stepOf cx.T Φ cond elt Γ) xs H₁ = .ok ys H₂)
    (k : ∀ ρ' s', Full ρ₁ s₁.heap ρ' s'.heap → Rel cx (H₂ ++ [.list ys]) ρ' s' → VR cx ρ' s'.heap (.loc H₂.length) (.ref D) → (∃ m, s'.heap.Ns cenv.locals m) → ¬ Owned ρ' cenv.locals → R (.ok .next) s') :
    codeAny (model cx.prog cx.w) A (.compLoop (.ListComp e [⟨.Name x px, iter, ifs, 0⟩] csc pos) 0 (.ref I) (.ref D) cenv) R s := by
  obtain ⟨Inv, hInv⟩ : ∃ Inv : Nat → Shared → Prop, ∀ n s, Inv n s ↔ ∃ i done H ρ rest, CInv cx ρ₁ s₁.heap D I cenv csc (inner csc ns ++ [some x]) Γ xs src i done H ρ s ∧ i ≤ xs.length ∧ n = xs.length + 1 - i ∧
    compL (chk src xs) (stepOf cx.T Φ cond elt Γ) (xs.drop i) H = .ok rest H₂ ∧ done ++ rest = ys := ⟨_, fun _ _ => Iff.rfl⟩
  refine codeAny_compLoop_tests Inv ?_ (xs.length + 1) ((hInv _ _).mpr ⟨0, [], H₁, ρ, ys, ci, Nat.zero_le _, rfl, hres, rfl⟩)
  intro n s hin
  obtain ⟨i, done, H, ρ, rest, ci, hi, rfl, hr, hys⟩ := (hInv _ _).mp hin
  obtain ⟨vs, nn, gD, rD⟩ := ci.acc
  obtain ⟨oo, eok⟩ := ci.env
  obtain ⟨oI, gI, iO⟩ := ci.it.obj
  cases hx : xs[i]? with
  | none =>
    have hlen := List.getElem?_eq_none_iff.mp hx
    rw [List.drop_eq_nil_of_le hlen] at hr
    obtain ⟨ck, rfl, rfl⟩ := compL_nil hr
    rw [List.append_nil] at hys
    subst hys
    refine iter_end hh ci.rel ci.it ck hx fun h' tk he => ?_
    have gD' : h'.get? D = some (listO vs nn) := he D _ hDI gD
    have st : Step ρ s.heap ρ h' := Step.ext gI he iO.not.1 iO.not.2
    have bI : cx.h₀.get? I = none := lvB.none hI
    have R' : Rel cx H ρ { s with heap := h', toks := tk } := ci.rel.same st (fun b o ho eb => he b o (fun w => ci.nI (w ▸ ho)) eb) fun b o eb => he b o (fun w => by rw [w, bI] at eb; cases eb) (ci.rel.base b o eb)
    obtain ⟨R2, v2⟩ := Rel.adopt (s := { s with heap := h', toks := tk }) R' gD' (rD.step st) (Nat.le_of_lt hz) ci.nD (lvB.none hD)
    have F2 : Full ρ₁ s₁.heap ρ h' := ci.full.fresh hI he
    obtain ⟨m, hm⟩ := eok.st.loc
    have nIl : I ≠ cenv.locals := eok.st.notLoc gI iO.notDict
    refine k _ _ (F2.addOwn ⟨hD, hD⟩) R2 v2 ⟨m, Heap_Ns_keep hm fun o eo => ⟨o, he _ o (fun w => nIl w.symm) eo, rfl⟩⟩ ?_
    intro ⟨p, hp, h⟩
    rcases List.mem_append.mp hp with hp | hp
    · exact eok.st.locN ⟨p, hp, h⟩
    · rw [List.mem_singleton.mp hp] at h
      have : cenv.locals = D := by rcases h with h | h <;> exact h
      exact eok.st.notLoc gD (fun es k q => by cases q) this.symm
  | some m =>
    have lt : i < xs.length := (List.getElem?_eq_some_iff.mp hx).1
    have hdrop : xs.drop i = m :: xs.drop (i + 1) := by
      rw [List.drop_eq_getElem_cons lt]
      rw [List.getElem?_eq_getElem lt] at hx
      cases hx; rfl
    rw [hdrop] at hr
    obtain ⟨ck, r, H3, e1, rest', e2, hrest⟩ := compL_cons hr
    refine iter_item ci.rel ci.it ck hx fun v h' tk hs hlive kk => ?_
    obtain ⟨oI', gI'⟩ := hlive
    have st : Step ρ s.heap ρ h' := Step.but gI' gI hs iO.not.1 iO.not.2
    obtain ⟨vm, it'⟩ := kk st
    have bI : cx.h₀.get? I = none := lvB.none hI
    have R' : Rel cx H ρ { s with heap := h', toks := tk } := ci.rel.but gI' gI hs iO.not.1 iO.not.2 ci.nI bI
    have ext : ∀ b o, b ≠ I → s.heap.get? b = some o → h'.get? b = some o := fun b o nb eb => by rw [hs.2 b nb]; exact eb
    have eok' : EnvOk cx cenv csc (inner csc ns ++ [some x]) (Γ ++ [oo]) ρ h' := eok.but ext (eok.st.notLoc gI iO.notDict) (eok.st.notCell gI iO.notCell) st
    have F' : Full ρ₁ s₁.heap ρ h' := ci.full.fresh hI ext
    have gD' : h'.get? D = some (listO vs nn) := ext D _ hDI gD
    have lenN : (inner csc ns).length = ns.length := by unfold inner; rw [List.length_map]
    have own : isOwn csc (inner csc ns ++ [some x]) ns.length x = true := by
      unfold isOwn
      have e0 : (inner csc ns ++ [some x])[ns.length]? = some (some x) := by rw [List.getElem?_append_right (by rw [lenN]; exact Nat.le_refl _), lenN]; simp
      rw [e0]
      rcases hxk with w | w <;> rw [w] <;> simp
    refine wpAny_assign_Name (store_var (s := { s with heap := h', toks := tk }) (Γ := Γ ++ [oo]) (by rw [List.length_append, List.length_append, hΓ, lenN]; rfl) hnd R' eok' own vm fun h2 tk2 FS R2 eok2 hq => ?_)
    obtain ⟨q, oq, hqd, hqs, gq⟩ := hq
    have set_eq : (Γ ++ [oo]).set ns.length (some m) = Γ ++ [some m] := by
      rw [← hΓ, List.set_append_right _ _ (Nat.le_refl _), Nat.sub_self]; rfl
    rw [set_eq] at eok2
    have qfresh : s₁.heap.get? q = none := by
      rcases hqd with ⟨_, rfl⟩ | ⟨w1, w2⟩
      · exact hC
      · exact hX q w1 w2
    have ext2 : ∀ b o, b ≠ q → h'.get? b = some o → h2.get? b = some o := fun b o nb eb => by rw [hqs.2 b nb]; exact eb
    have F2 : Full ρ₁ s₁.heap ρ h2 := F'.fresh qfresh ext2
    have qD : D ≠ q := by
      rcases hqd with ⟨_, rfl⟩ | ⟨w1, w2⟩
      · exact eok'.st.notLoc gD' (fun es k q => by cases q)
      · exact fun w => eok'.st.notCell gD' (fun v q => by cases q) x (w ▸ w2)
    obtain ⟨oI2, gI2, iO2⟩ := it'.obj
    have qI : I ≠ q := by
      rcases hqd with ⟨_, rfl⟩ | ⟨w1, w2⟩
      · exact eok'.st.notLoc gI2 iO2.notDict
      · exact fun w => eok'.st.notCell gI2 iO2.notCell x (w ▸ w2)
    have St2 : Step ρ h' ρ h2 := FullS.step eok'.st FS
    have it2 : ItOk cx xs I (i + 1) ρ h2 src := it'.step St2 fun o eo => ext2 I o qI eo
    have rD2 : VRs cx ρ h2 done vs := (rD.step st).step St2
    have gD2 : h2.get? D = some (listO vs nn) := ext2 D _ qD gD'
    have lenG : (Γ ++ [some m]).length = (inner csc ns ++ [some x]).length := by rw [List.length_append, List.length_append, hΓ, lenN]; rfl
    -- the tests
    obtain ⟨b, H4, e3, e4⟩ := stepOf_ok e1
    have T := tests (Γ ++ [some m]) lenG H ρ { s with heap := h2, toks := tk2 } R2 ⟨eok2, fr.full F2⟩
    rw [e3] at T
    refine wpAny_mono T (fun b' s3 ⟨ρ3, F3, R3, hb⟩ => ?_) fun _ _ q => q.elim
    have hb' : b' = b := hb
    subst hb'
    have F3' : Full ρ₁ s₁.heap ρ3 s3.heap := F2.trans F3
    have gD3 : s3.heap.get? D = some (listO vs nn) := F3.keep.exact gD2 ci.nD (fun es k q => by cases q)
    have nD3 : ¬ Owned ρ3 D := F3.grow.not ci.nD gD2
    obtain ⟨oI3, gI3, iO3⟩ := it2.obj
    have it3 : ItOk cx xs I (i + 1) ρ3 s3.heap src := it2.step F3.step fun o eo => by
      rw [gI3] at eo; cases eo
      exact F3.keep.exact gI3 ci.nI iO3.notDict
    have nI3 : ¬ Owned ρ3 I := F3.grow.not ci.nI gI3
    have rD3 : VRs cx ρ3 s3.heap done vs := rD2.step F3.step
    have eok3 : EnvOk cx cenv csc (inner csc ns ++ [some x]) (Γ ++ [some m]) ρ3 s3.heap := eok2.full F3
    rcases e4 with ⟨rfl, rfl, rfl⟩ | ⟨rfl, y, e4, rfl⟩
    · rw [if_neg Bool.false_ne_true]
      exact ⟨xs.length + 1 - (i + 1), by omega, (hInv _ _).mpr ⟨i + 1, done, H4, ρ3, rest', ⟨F3', R3, ⟨_, eok3⟩, it3, ⟨vs, nn, gD3, rD3⟩, nD3, nI3⟩, lt, rfl, e2, by rw [← hys, hrest]⟩⟩
    · rw [if_pos rfl]
      have T2 := elts (Γ ++ [some m]) lenG H4 ρ3 s3 R3 ⟨eok3, fr.full F3'⟩
      rw [e4] at T2
      refine wpAny_mono T2 (fun yv s4 ⟨ρ4, F4, R4, hy⟩ => ?_) fun _ _ q => q.elim
      have F4' : Full ρ₁ s₁.heap ρ4 s4.heap := F3'.trans F4
      have gD4 : s4.heap.get? D = some (listO vs nn) := F4.keep.exact gD3 nD3 (fun es k q => by cases q)
      have nD4 : ¬ Owned ρ4 D := F4.grow.not nD3 gD3
      obtain ⟨oI4, gI4, iO4⟩ := it3.obj
      have it4 : ItOk cx xs I (i + 1) ρ4 s4.heap src := it3.step F4.step fun o eo => by
        rw [gI4] at eo; cases eo
        exact F4.keep.exact gI4 nI3 iO4.notDict
      have nI4 : ¬ Owned ρ4 I := F4.grow.not nI3 gI4
      have rD4 : VRs cx ρ4 s4.heap done vs := rD3.step F4.step
      have eok4 := eok3.full F4
      have hlenD : vs.length < sizeLine := by
        rw [← rD.length]
        have : ys.length = done.length + rest.length := by rw [← hys, List.length_append]
        have : done.length < ys.length := by rw [this, hrest]; simp
        omega
      refine append_at gD4 (Nat.le_of_lt hlenD) fun h5 n5 gD5 hs5 => ?_
      have St5 : Step ρ4 s4.heap ρ4 h5 := Step.but gD5 gD4 hs5 listO_not.1 listO_not.2
      have ext5 : ∀ b o, b ≠ D → s4.heap.get? b = some o → h5.get? b = some o := fun b o nb eb => by rw [hs5.2 b nb]; exact eb
      have R5 : Rel cx H3 ρ4 { s4 with heap := h5 } := R4.but (tk := s4.toks) gD5 gD4 hs5 listO_not.1 listO_not.2 nD4 (lvB.none hD)
      refine ⟨xs.length + 1 - (i + 1), by omega, (hInv _ _).mpr ⟨i + 1, done ++ [y], H3, ρ4, rest', ⟨F4'.fresh hD ext5, R5, ⟨_, eok4.but ext5 (eok4.st.notLoc gD4 (fun es k q => by cases q)) (eok4.st.notCell gD4 (fun v q => by cases q)) St5⟩, it4.step St5 fun o eo => ext5 I o (fun w => hDI w.symm) eo, ⟨_, _, gD5, (rD4.step St5).append (.one (hy.step St5))⟩, nD4, nI4⟩, lt, rfl, e2, ?_⟩⟩
      rw [← hys, hrest, List.append_assoc]; rfl
end
end Mine

-- part MCompE
namespace Mine
open PySem

theorem foldedSet_of {i : Expr} (h : notSet i = true) (env : Env) (x : Value) : foldedSetIterable i env x = pure x := by
  cases i <;> first | rfl | cases h

section
variable {cx : Cx} {N : Names} {A : Around} {env : Env} {sc csc : Scope} {ns : List (Option Str)} {Γ : Env'} {H : Hp} {ρ ρ' : Rho} {s : Shared} {Φ : Funs} {l : List Env} {x : Str} {cond : MEo} {elt : ME} {ifs : List Expr} {e : Expr}

/- an object that is not owned, not the base's, and that no value leans on is turned -/
theorem Rel.ext (R : Rel cx H ρ s) {h' : Heap} {tk : Nat} {a : Addr} {o : Obj} (e : s.heap.get? a = some o) (hs : Heap.ExtBut a s.heap h') (n1 : ¬ Fixed o) (n2 : ∀ C, ¬ IsExcO o C) (no : ¬ Owned ρ a) (nb : cx.h₀.get? a = none) :
    Rel cx H ρ { s with heap := h', toks := tk } :=
  R.same (Step.ext e hs n1 n2) (fun b ob ho eb => hs b ob (fun q => no (q ▸ ho)) eb) fun b ob eb => hs b ob (fun q => by subst q; rw [nb] at eb; cases eb) (R.base b ob eb)

theorem iter_self {xs : List Val} {I : Addr} {i : Nat} {src : Option Nat} (x : ItOk cx xs I i ρ s.heap src) {Q : Value → Shared → Prop} {E : Value → Shared → Prop} (k : Q (.ref I) s) : wpAny (model cx.prog cx.w) A (pyIter (.ref I)) Q E s := by
  cases x with
  | list hp hi => exact wpAny_pyIter_listiter hi k
  | tup e n r hi => exact wpAny_pyIter_tupleiter hi k
  | script e r hi => exact wpAny_pyIter_listiter hi k
  | rng e hi => exact wpAny_pyIter_rangeiter hi k
  | str e ht hs =>
    rcases ht with rfl | rfl
    · exact wpAny_pyIter_striter_ascii hs k
    · exact wpAny_pyIter_striter_wide hs k

/- what a comprehension's parts do -/
structure CParts (cx : Cx) (A : Around) (Φ : Funs) (l : List Env) (csc : Scope) (ns' : List (Option Str)) (cond : MEo) (elt : ME) (ifs : List Expr) (e : Expr) : Prop where
  tests : ∀ (cenv : Env) (Γ' : Env'), Γ'.length = ns'.length → Sim cx A ((Amb.env cx cenv csc ns' Γ').and (Amb.frames cx l)) (forIn ifs true fun c r => if r = true then do let ok ← isTrue c cenv (eval c cenv); pure (ForInStep.yield ok) else pure (ForInStep.yield r)) (evalC cx.T Φ cond Γ') BV
  elts : ∀ (cenv : Env) (Γ' : Env'), Γ'.length = ns'.length → Sim cx A ((Amb.env cx cenv csc ns' Γ').and (Amb.frames cx l)) (eval e cenv) (evalE cx.T Φ elt Γ') (Amb.vr cx)

set_option tactic.hygienic true in
theorem inner_inj (hnd : ∀ (i j : Nat) (y : Str), ns[i]? = some (some y) → ns[j]? = some (some y) → i = j) (hx : csc.names.lookup x = some .local ∨ csc.names.lookup x = some .cell) :
    ∀ (i j : Nat) (y : Str), (inner csc ns ++ [some x])[i]? = some (some y) → (inner csc ns ++ [some x])[j]? = some (some y) → i = j := by
  have lenN : (inner csc ns).length = ns.length := by unfold inner; rw [List.length_map]
  have at' : ∀ (i : Nat) (y : Str), (inner csc ns ++ [some x])[i]? = some (some y) → (ns[i]? = some (some y) ∧ csc.names.lookup y = some .free) ∨ (i = ns.length ∧ y = x) := by
    intro i y h
    by_cases lt : i < ns.length
    · rw [List.getElem?_append_left (by rw [lenN]; exact lt)] at h
      unfold inner at h
      rw [List.getElem?_map] at h
      cases hn : ns[i]? with
      | none => rw [hn] at h; cases h
      | some oy =>
        rw [hn] at h
        cases oy with
        | none => cases h
        | some y' =>
          simp only [Option.map_some, Option.some.injEq] at h
          split at h
          · rename_i hf; cases h; exact .inl ⟨rfl, hf⟩
          · cases h
    · rw [List.getElem?_append_right (by rw [lenN]; omega), lenN] at h
      cases q : i - ns.length with
      | zero => rw [q] at h; simp at h; exact .inr ⟨by omega, h.symm⟩
      | succ n => rw [q] at h; simp at h
  intro i j y hi hj
  rcases at' i y hi with ⟨a1, a2⟩ | ⟨a1, a2⟩ <;> rcases at' j y hj with ⟨b1, b2⟩ | ⟨b1, b2⟩
  · exact hnd i j y a1 b1
  · subst b2; rcases hx with w | w <;> rw [w] at a2 <;> cases a2
  · subst a2; rcases hx with w | w <;> rw [w] at b2 <;> cases b2
  · omega

theorem comp_block (hh : A.handled = none) (hc : compOk sc csc x = true) (hnd : ∀ (i j : Nat) (y : Str), ns[i]? = some (some y) → ns[j]? = some (some y) → i = j) (hΓ : Γ.length = ns.length)
    (pt : CParts cx A Φ l csc (inner csc ns ++ [some x]) cond elt ifs e)
    {v : Val} {xv : Value} {xs ys : List Val} {src : Option Nat} {H₂ : Hp} {px pos : Pos} {iter : Expr} {RR : Value → Addr → Result → Shared → Prop} {E : Value → Shared → Prop}
    (R : Rel cx H ρ s) (e0 : EnvOk cx env sc ns Γ ρ s.heap) (fr : FramesOk cx l ρ s.heap) (vr : VR cx ρ s.heap v xv) (hit : iterOf v H = some (xs, src)) (hres : compL (chk src xs) (stepOf cx.T Φ cond elt Γ) xs H = .ok ys H₂) (hz : ys.length < sizeLine)
    (k : ∀ D C ρ' s', Full ρ s.heap ρ' s'.heap → Rel cx (H₂ ++ [.list ys]) ρ' s' → VR cx ρ' s'.heap (.loc H₂.length) (.ref D) → (∃ m, s'.heap.Ns C m) → ¬ Owned ρ' C → s.heap.get? C = none → RR (.ref D) C (.ok .next) s') :
    wpAny (model cx.prog cx.w) A (pyIter xv) (fun it s₂ => wpAny (model cx.prog cx.w) A (newList []) (fun acc s₃ => wpAny (model cx.prog cx.w) A (newFunctionEnv csc env.globals (cloOf env csc.names []) [] env.qual none .none (some env)) (fun cenv s₄ =>
      codeAny (model cx.prog cx.w) A (.compStart (.ListComp e [⟨.Name x px, iter, ifs, 0⟩] csc pos) 0 it acc { cenv with scope := relabel csc env }) (RR acc cenv.locals) s₄) E s₃) E s₂) E s := by
  obtain ⟨c1, c2, c3⟩ := compOk_parts hc
  have lvB : Live cx.h₀ s.heap := fun b o e => ⟨o, R.base b o e⟩
  refine iter_start R vr hit fun o go it0 => ?_
  refine wpAny_newObj_type ?_
  refine wpAny_newCompEnv _ ?_
  -- the three heaps
  generalize hs1 : ({ s with heap := s.heap.push o } : Shared) = s1 at it0
  have h1 : s1.heap = s.heap.push o := by rw [← hs1]
  have F1 : Full ρ s.heap ρ s1.heap := by rw [h1]; exact Full.push _ _ _
  have R1 : Rel cx H ρ s1 := by rw [← hs1]; exact R.push o s.toks
  generalize hs2 : ({ s1 with heap := s1.heap.push (listO [] 0) } : Shared) = s2
  have h2 : s2.heap = s1.heap.push (listO [] 0) := by rw [← hs2]
  have F2 : Full ρ s1.heap ρ s2.heap := by rw [h2]; exact Full.push _ _ _
  have R2 : Rel cx H ρ s2 := by rw [← hs2]; exact R1.push (listO [] 0) s1.toks
  have z1 : s1.heap.objs.size = s.heap.objs.size + 1 := by rw [h1, Heap.size_push]
  have z2 : s2.heap.objs.size = s.heap.objs.size + 2 := by rw [h2, Heap.size_push, z1]
  have F12 : Full ρ s.heap ρ s2.heap := F1.trans F2
  have e2 : EnvOk cx env sc ns Γ ρ s2.heap := e0.full F12
  obtain ⟨ce, cf⟩ := comp_env R2 e2 hc hΓ
  have F3 : Full ρ s2.heap ρ (compHeap csc s2.heap) := Full.more (compHeap_keep csc s2.heap)
  have R3 : Rel cx H ρ { s2 with heap := compHeap csc s2.heap } := R2.more (tk := s2.toks) (compHeap_keep csc s2.heap)
  have hDn : s.heap.get? s1.heap.objs.size = none := fresh_le (by rw [z1]; exact Nat.le_succ _)
  have hIn : s.heap.get? s.heap.objs.size = none := fresh_none _
  have hCn : s.heap.get? s2.heap.objs.size = none := fresh_le (by rw [z2]; exact Nat.le_add_right _ _)
  have gD2 : s2.heap.get? s1.heap.objs.size = some (listO [] 0) := by rw [h2]; exact Heap.get?_push_size _ rfl
  have it1 : ItOk cx xs s.heap.objs.size 0 ρ s1.heap src := by rw [h1]; exact it0
  have go1 : s1.heap.get? s.heap.objs.size = some o := by rw [h1]; exact go
  have it3 : ItOk cx xs s.heap.objs.size 0 ρ (compHeap csc s2.heap) src := (it1.step F2.step fun o' eo => by rw [h2]; exact Heap.get?_push_of_some _ eo).step F3.step (compHeap_keep csc s2.heap _)
  have ci : CInv cx ρ s.heap s1.heap.objs.size s.heap.objs.size (compEnv csc env s2.heap.objs.size) csc (inner csc ns ++ [some x]) Γ xs src 0 [] H ρ { s2 with heap := compHeap csc s2.heap } :=
    ⟨F12.trans F3, R3, ⟨none, ce⟩, it3, ⟨[], 0, compHeap_keep csc s2.heap _ _ gD2, .nil⟩, R.fresh_not hDn, R.fresh_not hIn⟩
  have loop : codeAny (model cx.prog cx.w) A (.compLoop (.ListComp e [⟨.Name x px, iter, ifs, 0⟩] csc pos) 0 (.ref s.heap.objs.size) (.ref s1.heap.objs.size) (compEnv csc env s2.heap.objs.size)) (RR (.ref s1.heap.objs.size) s2.heap.objs.size) { s2 with heap := compHeap csc s2.heap } := by
    refine comp_loop (s₁ := s) (ρ₁ := ρ) (l := l) hh hDn hIn (by rw [z1]; exact Nat.succ_ne_self _) hCn (fun q w1 w2 => ?_) (inner_inj hnd c2) hΓ c2 fr lvB (fun Γ' h' => pt.tests _ Γ' h') (fun Γ' h' => pt.elts _ Γ' h') hz ci hres fun ρ' s' F' R' v' m' n' => ?_
    · have := cf q w1 w2
      cases g : s.heap.get? q with
      | none => rfl
      | some ob =>
        obtain ⟨o', eo'⟩ := F12.live q ob g
        rw [this] at eo'; cases eo'
    · exact k _ _ ρ' s' F' R' v' m' n' hCn
  have key := codeAny_compStart_list loop (iter_self (ρ := ρ) (s := { s2 with heap := compHeap csc s2.heap }) it3 loop)
  subst hs1
  subst hs2
  exact key

theorem compPost_mono {E E' : Value → Shared → Prop} {use : Option (Value → Sem Unit)} {Q Q' : Value → Shared → Prop} {acc : Value} {C : Addr} {r : Result} {s' : Shared} {M : Model} (h : compPost M A E use Q acc C r s') (k1 : ∀ a s, Q a s → Q' a s) (k2 : ∀ e s, E e s → E' e s) : compPost M A E' use Q' acc C r s' := by
  unfold compPost at h ⊢
  cases r with
  | ok f =>
    cases use with
    | none => obtain ⟨m, hm, h⟩ := h; exact ⟨m, hm, fun h' hs => k1 _ _ (h h' hs)⟩
    | some u => exact wpAny_mono h (fun _ s'' ⟨m, hm, h⟩ => ⟨m, hm, fun h' hs => k1 _ _ (h h' hs)⟩) k2
  | error x =>
    cases use with
    | none => obtain ⟨m, hm, h⟩ := h; exact ⟨m, hm, fun h' hs c hc => wpAny_mono (h h' hs c hc) (fun _ _ q => q) k2⟩
    | some u => obtain ⟨m, hm, h⟩ := h; exact ⟨m, hm, fun h' hs c hc => wpAny_mono (h h' hs c hc) (fun _ _ q => q) k2⟩

theorem quiet_ok {α : Type} {m : M α} {H H' : Hp} {a : α} (h : M.quiet m H = .ok a H') : m H = .ok a H' := by
  unfold M.quiet at h
  split at h
  · cases h
  · exact h
set_option tactic.hygienic true in
theorem quiet_exc {α : Type} {m : M α} {H H' : Hp} {c : Nat} (h : M.quiet m H = .exc c H') : False := by
  unfold M.quiet at h
  split at h
  · cases h
  · rename_i q; exact q c H' h

noncomputable def compRest (T : Tab) (Φ : Funs) (cond : MEo) (elt : ME) (Γ : Env') (v : Val) : M Val := (M.look (iterOf v)).bnd fun p =>
  (M.quiet (compL (chk p.2 p.1) (stepOf T Φ cond elt Γ) p.1)).bnd fun ys => if ys.length < lid then M.alloc (.list ys) else .bad
theorem comp_eval (T : Tab) (Φ : Funs) (cond : MEo) (elt it : ME) (Γ : Env') : evalE T Φ (.comp elt it cond) Γ = (evalE T Φ it Γ).bnd (compRest T Φ cond elt Γ) := by
  rfl
theorem compRest_cases {T : Tab} {Φ : Funs} {cond : MEo} {elt : ME} {Γ : Env'} {v : Val} {H : Hp} : compRest T Φ cond elt Γ v H = .bad ∨
    ∃ xs src ys H₂, iterOf v H = some (xs, src) ∧ compL (chk src xs) (stepOf T Φ cond elt Γ) xs H = .ok ys H₂ ∧ ys.length < sizeLine ∧ compRest T Φ cond elt Γ v H = .ok (.loc H₂.length) (H₂ ++ [.list ys]) := by
  unfold compRest
  cases e1 : iterOf v H with
  | none => left; rw [bnd_bad (look_none e1)]
  | some p =>
    rw [bnd_ok (look_some e1)]
    obtain ⟨xs, src⟩ := p
    dsimp only
    cases e2 : M.quiet (compL (chk src xs) (stepOf T Φ cond elt Γ) xs) H with
    | bad => left; rw [bnd_bad e2]
    | exc c H' => exact (quiet_exc e2).elim
    | ok ys H₂ =>
      rw [bnd_ok e2]
      by_cases q : ys.length < lid
      · right
        refine ⟨xs, src, ys, H₂, rfl, quiet_ok e2, by rw [← sizeLine_lid]; exact q, ?_⟩
        rw [if_pos q]; rfl
      · left; rw [if_neg q]; rfl

theorem nsO_not {h : Heap} {C : Addr} {m : Str → Option Value} (n : h.Ns C m) : ∃ o, h.get? C = some o ∧ ¬ Fixed o ∧ ∀ D, ¬ IsExcO o D := by
  obtain ⟨o, es, ep, e, d, _⟩ := n
  exact ⟨o, e, fun f => f.notDict _ _ d, fun D f => f.notDict _ _ d⟩

theorem eok_comp (hh : A.handled = none) {it : ME} {i : Expr} {px pos : Pos} (hi : notSet i = true) (hc : compOk sc csc x = true) (hnd : ∀ (i j : Nat) (y : Str), ns[i]? = some (some y) → ns[j]? = some (some y) → i = j) (hΓ : Γ.length = ns.length)
    (pt : CParts cx A Φ l csc (inner csc ns ++ [some x]) cond elt ifs e) (y : EOk cx A ((Amb.env cx env sc ns Γ).and (Amb.frames cx l)) Φ env Γ it i) :
    EOk cx A ((Amb.env cx env sc ns Γ).and (Amb.frames cx l)) Φ env Γ (.comp elt it cond) (.ListComp e [⟨.Name x px, i, ifs, 0⟩] csc pos) := by
  obtain ⟨c1, c2, c3⟩ := compOk_parts hc
  refine EOk.of ?_ rfl
  intro H ρ s R p
  rw [comp_eval]
  refine SimAt.bindK (K' := fun Q E s => wpAny (model cx.prog cx.w) A (eval (.ListComp e [⟨.Name x px, i, ifs, 0⟩] csc pos) env) Q E s)
    (K := fun xv Q E s => wpAny (model cx.prog cx.w) A (pyIter xv) (fun it s₂ => wpAny (model cx.prog cx.w) A (newList []) (fun acc s₃ => wpAny (model cx.prog cx.w) A (newFunctionEnv csc env.globals (cloOf env csc.names []) [] env.qual none .none (some env)) (fun cenv s₄ =>
      codeAny (model cx.prog cx.w) A (.compStart (.ListComp e [⟨.Name x px, i, ifs, 0⟩] csc pos) 0 it acc { cenv with scope := relabel csc env }) (compPost (model cx.prog cx.w) A E none Q acc cenv.locals) s₄) E s₃) E s₂) E s) (y.val H ρ s R p) ?_ ?_ ?_
  · intro b xv H1 ρ1 s1 _ F1 R1 vr
    rcases compRest_cases (T := cx.T) (Φ := Φ) (cond := cond) (elt := elt) (Γ := Γ) (v := b) (H := H1) with w | ⟨xs, src, ys, H₂, w1, w2, w3, w4⟩
    · rw [w]; trivial
    · rw [w4]
      refine comp_block hh hc hnd hΓ pt R1 (p.1.full F1) (p.2.full F1) vr w1 w2 w3 fun D C ρ' s' F' R' v' m' n' hC => ?_
      obtain ⟨m, hm⟩ := m'
      obtain ⟨oC, gC, nf, nx⟩ := nsO_not hm
      have lvB : Live cx.h₀ s1.heap := fun b o e => ⟨o, R1.base b o e⟩
      refine ⟨m, hm, fun h' hs => ?_⟩
      have st : Step ρ' s'.heap ρ' h' := Step.ext gC hs.extBut nf nx
      exact ⟨ρ', F'.fresh hC hs.extBut, R'.ext (tk := s'.toks) gC hs.extBut nf nx n' (lvB.none hC), v'.step st⟩
  · intro xv Q E Q' E' s h k1 k2
    exact wpAny_mono h (fun it s₂ h2 => wpAny_mono h2 (fun acc s₃ h3 => wpAny_mono h3 (fun cenv s₄ h4 => codeAny_mono h4 fun r s' hr => compPost_mono hr k1 k2) k2) k2) k2
  · intro Q E h
    rw [eval_ListComp]
    exact wpAny_comprehension_free (use := none) (g := ⟨.Name x px, i, ifs, 0⟩) (gs := []) rfl (fun xv => foldedSet_of hi env xv)
      (closureFor_eq fun p' hp' hf => p.1.st.hasCell p'.1 (by rcases (c3 p' hp').2 hf with w | w; exact .inl w; exact .inr w)) c1 (fun p' hp' hl => by rw [(c3 p' hp').1, hl]) h
end
end Mine

-- part MInst
namespace Mine
open PySem
section
variable {cx : Cx} {N : Names} {A : Around} {Φ : Funs} {l : List Env} {d : Nat} {env : Env} {sc : Scope} {ns : List (Option Str)} {Γ : Env'} {H : Hp} {ρ : Rho} {s : Shared}

theorem VR.handed {m : Val} {v : Value} {h : Heap} (x : VR cx ρ h m v) : handedOut v = pure v := by cases x <;> rfl
/- the instance at a place of the mini heap -/
theorem Rel.instAt (R : Rel cx H ρ s) {i c : Nat} {fs : List (Nat × Val)} {p : Addr × Addr} (hH : H[i]? = some (.inst c fs)) (hρ : ρ[i]? = some p) :
    ∃ C o mA, (cx.T.meth c 0).isSome = true ∧ cx.cls[c]? = some (.ref C) ∧ s.heap.get? p.1 = some o ∧ o.cls = .ref C ∧ (∀ c, o.data ≠ .cls c) ∧ o.dict = some p.2 ∧ p.2 ≠ p.1 ∧ s.heap.Ns1 p.2 mA ∧
      (∀ n v, fs.lookup n = some v → ∃ y x, cx.attrs[n]? = some y ∧ mA y = some x ∧ VR cx ρ s.heap v x) ∧ (∀ y, mA y ≠ none → ∃ n v, cx.attrs[n]? = some y ∧ fs.lookup n = some v) := by
  have := R.objs i _ p hH hρ
  generalize ho : HObj.inst c fs = o at this
  cases this with
  | list _ _ _ => cases ho
  | dict _ _ _ => cases ho
  | hid _ => cases ho
  | inst k0 k e k1 k2 k3 k4 n f g => cases ho; exact ⟨_, _, _, k0, k, e, k1, k2, k3, k4, n, f, g⟩
theorem inst_of {h : Heap} {a b C : Addr} {o : Obj} {mA : Str → Option Value} (e : h.get? a = some o) (k1 : o.cls = .ref C) (k2 : ∀ c, o.data ≠ .cls c) (k3 : o.dict = some b) (k4 : b ≠ a) (n : h.Ns1 b mA) : h.Inst a C mA :=
  ⟨o, e, k1, k2, .inr ⟨b, k3, k4, n⟩⟩

theorem SimK.looks {α β : Type} {f : Hp → Option β} {K : (α → Shared → Prop) → (Value → Shared → Prop) → Shared → Prop} {V : β → α → Amb} (y : ∀ b, f H = some b → SimK cx (.ok b H) K V ρ s) : SimK cx (M.look f H) K V ρ s := by
  cases e : f H with
  | none => rw [look_none e]; trivial
  | some b => rw [look_some e]; exact y b e
/- an attribute is read -/
theorem wp_getattr (CB : ClsBase cx N) (R : Rel cx H ρ s) {i c n : Nat} {fs : List (Nat × Val)} {p : Addr × Addr} {y : Str} {m : Val} (hH : H[i]? = some (.inst c fs)) (hρ : ρ[i]? = some p) (hy : cx.attrs[n]? = some y) (hm : fs.lookup n = some m) {Q : Value → Shared → Prop} {E : Value → Shared → Prop}
    (k : ∀ v tk, VR cx ρ s.heap m v → Q v { s with toks := tk }) : wpAny (model cx.prog cx.w) A (getAttr (.ref p.1) y true) Q E s := by
  obtain ⟨C, o, mA, k0, kc, e, k1, k2, k3, k4, nn, f, g⟩ := R.instAt hH hρ
  obtain ⟨nm, q, Nn, bs, sn, sub, col, dd, q0, q1, q2, q3, q5, mN, hC, hN, h1, h2, h3, h4, h5⟩ := (CB.cls c C kc k0).is
  obtain ⟨y', x, hy', hx, vr⟩ := f n m hm
  rw [hy] at hy'; cases hy'
  exact load_attr (R.base _ _ hC) (hN.keeps R.base) h1 (h4 n y hy).1 (h4 n y hy).2 (inst_of e k1 k2 k3 k4 nn) hx vr.handed (k x _ vr)
set_option tactic.hygienic true in
theorem eok_attr (CB : ClsBase cx N) {P : Amb} {a : ME} {n : Nat} {v : Expr} {y : Str} {pos : Pos} (hn : hasNo N.attrs y n = true) (hs : notSuper v = true) (x : EOk cx A P Φ env Γ a v) :
    EOk cx A P Φ env Γ (.attr a n) (.Attribute v y pos) := by
  refine EOk.of ?_ rfl
  intro H ρ s R p
  rw [ev_attr]
  refine SimAt.bindK (K' := fun Q E s => wpAny (model cx.prog cx.w) A (eval (.Attribute v y pos) env) Q E s) (K := fun o Q E s => wpAny (model cx.prog cx.w) A (getAttr o y true) Q E s) (x.val H ρ s R p) ?_ (fun _ => monoK_wp _) ?_
  · intro b o H1 ρ1 s1 _ F1 R1 vr
    have vr' : VR cx ρ1 s1.heap b o := vr
    refine SimK.looks fun m hm => ?_
    split at hm
    · rename_i i
      obtain ⟨p1, hp1, rfl⟩ := vr'.loc_inv
      split at hm
      · rename_i c fs hi
        exact wp_getattr CB R1 hi hp1 (CB.attr y n (hasNo_eq hn)) hm fun v tk vr => ⟨ρ1, Full.refl _ _, R1.toks tk, vr⟩
      · cases hm
    · cases hm
  · intro Q E h
    rw [arm_eval_Attribute, attributeBase_of hs]
    exact wpAny_bind (wpAny_mono h (fun o s₁ h₁ => wpAny_bind (wpAny_standAt (wpAny_bind (wpAny_holding (wpAny_mono h₁ (fun r s₂ h₂ => wpAny_bind (wpAny_letTemporaryGo (wpAny_pure h₂))) fun _ _ q => q))))) fun _ _ q => q)
theorem fput_self : ∀ (fs : List (Nat × Val)) (n : Nat) (v : Val), (fput fs n v).lookup n = some v
  | [], n, v => by simp [fput]
  | (m, u) :: r, n, v => by
    unfold fput
    by_cases e : m = n
    · rw [if_pos e, e]; simp
    · rw [if_neg e, List.lookup_cons]
      have : (n == m) = false := by simpa using fun q : n = m => e q.symm
      rw [this]; exact fput_self r n v
theorem fput_other : ∀ (fs : List (Nat × Val)) (n k : Nat) (v : Val), k ≠ n → (fput fs n v).lookup k = fs.lookup k
  | [], n, k, v, h => by
    have : (k == n) = false := by simpa using h
    simp [fput, List.lookup_cons, this]
  | (m, u) :: r, n, k, v, h => by
    unfold fput
    by_cases e : m = n
    · rw [if_pos e, e, List.lookup_cons, List.lookup_cons]
      have : (k == n) = false := by simpa using h
      rw [this]
    · rw [if_neg e, List.lookup_cons, List.lookup_cons, fput_other r n k v h]
/- an attribute is stored -/
theorem wp_setattr (CB : ClsBase cx N) (R : Rel cx H ρ s) {i c n : Nat} {fs : List (Nat × Val)} {p : Addr × Addr} {y : Str} {m : Val} {v : Value} (hH : H[i]? = some (.inst c fs)) (hρ : ρ[i]? = some p) (hy : cx.attrs[n]? = some y) (vr : VR cx ρ s.heap m v) {Q : Unit → Shared → Prop} {E : Value → Shared → Prop}
    (k : ∀ s', Full ρ s.heap ρ s'.heap → Rel cx (H.set i (.inst c (fput fs n m))) ρ s' → Q () s') : wpAny (model cx.prog cx.w) A (setAttr (.ref p.1) y v) Q E s := by
  obtain ⟨C, o, mA, k0, kc, e, k1, k2, k3, k4, nn, f, g⟩ := R.instAt hH hρ
  obtain ⟨nm, q, Nn, bs, sn, sub, col, dd, q0, q1, q2, q3, q5, mN, hC, hN, h1, h2, h3, h4, h5⟩ := (CB.cls c C kc k0).is
  have hxC : p.1 ≠ C := fun w => by have := (R.new p (List.mem_of_getElem? hρ)).1; rw [w, hC] at this; cases this
  refine store_attr F.store_object (R.base _ _ hC) (hN.keeps R.base) h3 (h4 n y hy).1 (h4 n y hy).2 hxC (inst_of e k1 k2 k3 k4 nn) (fun h' tk' I' hk hsame => ?_)
    (ns := cx.attrs) (fun z hz => by obtain ⟨j, _, hj, _⟩ := g z hz; exact List.mem_of_getElem? hj) CB.few
  obtain ⟨o₁, e1, c1, d1, _, dd1⟩ := hsame o e
  obtain ⟨o₂, e2, c2, n2, hd2⟩ := I'
  rw [e1] at e2; cases e2
  have nn' : h'.Ns1 p.2 (fun z => if z = y then some v else mA z) := by
    rcases hd2 with ⟨w, _⟩ | ⟨b, w, _, w2⟩
    · rw [dd1 _ k3] at w; cases w
    · rw [dd1 _ k3] at w; cases w; exact w2
  have keep : ∀ b ob, s.heap.get? b = some ob → b ≠ p.1 → b ≠ p.2 → h'.get? b = some ob := fun b ob eb w1 w2 => hk b ob w1 (fun o₀ dx f1 f2 => by rw [e] at f1; cases f1; rw [k3] at f2; cases f2; exact w2) eb
  have lv : Live s.heap h' := fun b ob eb => by
    by_cases w1 : b = p.1
    · rw [w1]; exact ⟨o₁, e1⟩
    · by_cases w2 : b = p.2
      · obtain ⟨on, _, _, en, _⟩ := nn'; rw [w2]; exact ⟨on, en⟩
      · exact ⟨ob, keep b ob eb w1 w2⟩
  have own : ∀ b, ¬ Owned ρ b → b ≠ p.1 ∧ b ≠ p.2 := fun b n => ⟨fun e => n ⟨p, List.mem_of_getElem? hρ, .inl e⟩, fun e => n ⟨p, List.mem_of_getElem? hρ, .inr e⟩⟩
  have F : Full ρ s.heap ρ h' := ⟨Grow.refl _ _, fun b ob eb n => ⟨ob, keep b ob eb (own b n).1 (own b n).2, .refl ob⟩, lv⟩
  obtain ⟨_, R'⟩ := R.set (tk := tk') (o := .inst c (fput fs n m)) hρ keep lv (by
    obtain ⟨p1, p2⟩ := p
    refine .inst k0 kc e1 (c1.trans k1) n2 (dd1 _ k3) k4 nn' (fun j u hj => ?_) (fun z hz => ?_)
    · by_cases w : j = n
      · subst w
        rw [fput_self] at hj; cases hj
        exact ⟨y, v, hy, by simp, vr.step F.step⟩
      · rw [fput_other _ _ _ _ w] at hj
        obtain ⟨y', x, hy', hx, vx⟩ := f j u hj
        have ne : y' ≠ y := fun q => w (CB.inj j n y (q ▸ hy') hy)
        exact ⟨y', x, hy', by simp [ne, hx], vx.step F.step⟩
    · by_cases w : z = y
      · exact ⟨n, m, w ▸ hy, fput_self _ _ _⟩
      · simp only [w, if_false] at hz
        obtain ⟨j, u, hj, hu⟩ := g z hz
        have ne : j ≠ n := fun q => w (by rw [q, hy] at hj; cases hj; rfl)
        exact ⟨j, u, hj, by rw [fput_other _ _ _ _ ne]; exact hu⟩)
  exact k _ F R'
/- a method of an own class is called -/
theorem wpAny_Call_own {o : Expr} {name : Str} {apos pos : Pos} {args : List Expr} {Q : Value → Shared → Prop} {E : Value → Shared → Prop} (hs : notSuper o = true) (hp : plainArgs env args) (hz : args.length ≤ 20) (hline : (apos.endLine == pos.line) = true)
    (h : wpAny (model cx.prog cx.w) A (eval o env) (fun ov s₁ => ∀ pl, wpAny (model cx.prog cx.w) A (getMethod ov name pl) (fun r s₂ => wpAny (model cx.prog cx.w) A (callWith pos r.1 r.2 (args.map fun e => (false, eval e env)) []) Q E s₂) E s₁) E s) :
    wpAny (model cx.prog cx.w) A (eval (.Call (.Attribute o name apos) args [] pos) env) Q E s := by
  rw [arm_eval_Call, attributeBase_of hs]
  refine wpAny_bind (wpAny_mono h (fun ov s₁ h₁ => ?_) fun _ _ e => e)
  refine wpAny_bind (wpAny_standAt ?_)
  have hform : methodCallForm (args.length + ([] : List Keyword).length) (backTo pos (starEach args env)) (backToKw pos (keywordEach [] env)) = true := plainArgs_few hp hz
  have hpos : methodCallPos true o env apos pos = pure pos := by unfold methodCallPos; simp [hline]
  unfold methodCall
  rw [hform, plainArgs_trees pos hp]
  refine wpAny_bind (wpAny_holding (wpAny_mono (h₁ _) (fun r s₂ h₂ => ?_) fun _ _ e => e))
  exact wpAny_bind (wpAny_of_eq hpos h₂)
theorem umeth_some {T : Tab} {v : Val} {m k : Nat} (h : (match v with | .loc i => (match H[i]? with | some (.inst c _) => T.meth c m | _ => none) | _ => none) = some k) : ∃ i c fs, v = .loc i ∧ H[i]? = some (.inst c fs) ∧ T.meth c m = some k := by
  split at h
  · split at h
    · exact ⟨_, _, _, rfl, by assumption, h⟩
    · cases h
  · cases h
theorem eok_umeth (CB : ClsBase cx N) (hΦ : FunsOk cx Φ d) (room : Room A d) (hfr : A.frames = some l) {a : ME} {m : Nat} {es : MEs} {o : Expr} {y : Str} {apos pos : Pos} {xs : List Expr} (hm : hasNo N.meths y m = true) (hes : ckEs N sc ns es xs = true) (hz : xs.length ≤ 20) (hs : notSuper o = true) (hline : (apos.endLine == pos.line) = true)
    (x : EOk cx A ((Amb.env cx env sc ns Γ).and (Amb.frames cx l)) Φ env Γ a o) (y' : Sim cx A ((Amb.env cx env sc ns Γ).and (Amb.frames cx l)) (spliced (xs.map fun e => (false, eval e env))) (evalEs cx.T Φ es Γ) (Amb.vrs cx)) :
    EOk cx A ((Amb.env cx env sc ns Γ).and (Amb.frames cx l)) Φ env Γ (.umeth a m es) (.Call (.Attribute o y apos) xs [] pos) := by
  refine EOk.of ?_ rfl
  intro H ρ s R p
  first | rw [ev_call] | rw [ev_new] | rw [ev_umeth] | rw [ev_bf] | rw [ev_isinst] | rw [ev_bm]
  refine SimAt.bindK (K' := fun Q E s => wpAny (model cx.prog cx.w) A (eval (.Call (.Attribute o y apos) xs [] pos) env) Q E s) (K := fun ov Q E s => ∀ pl, wpAny (model cx.prog cx.w) A (getMethod ov y pl) (fun r s₂ => wpAny (model cx.prog cx.w) A (callWith pos r.1 r.2 (xs.map fun e => (false, eval e env)) []) Q E s₂) E s) (x.val H ρ s R p) ?_ ?_
    (fun Q E h => wpAny_Call_own hs (ckEs_plain hes) hz hline h)
  · intro b ov H1 ρ1 s1 _ F1 R1 vr
    have vr' : VR cx ρ1 s1.heap b ov := vr
    refine SimK.lookK fun k hk => ?_
    obtain ⟨i, c, fs, rfl, hi, hk'⟩ := umeth_some hk
    obtain ⟨p1, hp1, rfl⟩ := vr'.loc_inv
    obtain ⟨C, ob, mA, k0, kc, e, k1, k2, k3, k4, nn, f, g⟩ := R1.instAt hi hp1
    obtain ⟨nm, q, Nn, bs, sn, sub, col, dd, q0, q1, q2, q3, q5, mN, hC, hN, h1, h2, h3, h4, h5⟩ := (CB.cls c C kc k0).is
    obtain ⟨fa, fo, fd, hfa, hmN, hfo, hfc, hfd, hna, r, hr⟩ := h5 y m k (hasNo_eq hm) hk'
    have hmA : mA y = none := by
      cases w : mA y with
      | none => rfl
      | some z => obtain ⟨j, _, hj, _⟩ := g y (by rw [w]; exact fun q => nomatch q); exact absurd hj (hna j)
    refine SimK.mono (simK_args (f := .ref fa) (K := fun vs Q E s => (s.heap.get? fa = some fo ∧ fo.data = .func fd) ∧ wpAny (model cx.prog cx.w) A (call (.ref fa) (.ref p1.1 :: vs)) Q E s) (fun e => ckEs_nil (e ▸ hes)) R1 (y' H1 ρ1 s1 R1 (((Amb.env cx env sc ns Γ).and (Amb.frames cx l)).st _ _ _ _ p F1)) ?_ ?_) ?_
    · intro ms vs H2 ρ2 s2 _ F2 R2 vrs
      exact SimK.andK ⟨R2.base _ _ hfo, hfd⟩ (hΦ k fa (.loc i :: ms) (.ref p1.1 :: vs) A l hfa room.toF hfr H2 ρ2 s2 R2 ⟨.cons (VR.step F2.step vr) vrs, (p.2.full F1).full F2⟩)
    · exact fun vs Q E Q' E' s h k1 k2 => ⟨h.1, wpAny_mono h.2 k1 k2⟩
    · intro Q E h pl
      refine method_of (R1.base _ _ hC) (hN.keeps R1.base) h1 h2 hmN (R1.base _ _ hfo) hfc hr (inst_of e k1 k2 k3 k4 nn) hmA ?_
      exact Calls.callWith_function (o := fo) (fd := fd) (wpAny_mono h (fun b s₁ h₁ => by rw [h₁.1]; exact h₁.2) fun _ _ q => q)
  · exact fun ov Q E Q' E' s h k1 k2 pl => wpAny_mono (h pl) (fun r s₂ h₂ => wpAny_mono h₂ k1 k2) k2
/- an own class is called -/
theorem callWith_own {nm q : Str} {C Nn : Addr} {bs : List Value} {sn : List Str} {sub : List Value} {col : Option Bool} {dd : Option Addr} {k0 k1 k2 k3 k5 : Option Value} {pos : Pos} {args : List (Bool × Sem Value)} {Q : Value → Shared → Prop} {E : Value → Shared → Prop} (hplain : args.any (·.1) = false)
    (h : wpAny (model cx.prog cx.w) A (evalArgs (.ref C) true args []) (fun as s₁ => as.kw = [] ∧ s₁.heap.get? C = some (excClassObj nm q C Nn bs [.type "object"] true sn sub false col dd k0 k1 k2 k3 k5 "object.__new__") ∧ wpAny (model cx.prog cx.w) A (call (.ref C) as.pos) Q E s₁) E s) :
    wpAny (model cx.prog cx.w) A (callWith pos (.ref C) [] args []) Q E s := by
  unfold callWith
  refine wpAny_bind (wpAny_holding (wpAny_mono h (fun as s₁ h₁ => ?_) fun _ _ x => x))
  obtain ⟨e, hC, hc⟩ := h₁
  obtain ⟨ps, kw⟩ := as
  dsimp only at e hc
  subst e
  obtain ⟨hh, g, dr, t, os⟩ := s₁
  have f1 := tc_lookup
  have hT : (⟨hh, g, dr, t, os⟩ : Shared).TypeIs (.ref C) "type" := ⟨_, hC, rfl⟩
  refine wpAny_bind (wpAny_standAt ?_)
  show wpAny _ _ (keeperOf (.ref C) >>= _) _ _ _
  unfold keeperOf specialOf
  repeat (any_goals (first | assumption | with_reducible refine wpAny_loadPart_at hC ?_ | with_reducible refine wpAny_load' hC ?_ | wp_step))
  rw [if_pos (by rfl), hplain]
  show wpAny _ _ (call (.ref C) ps [] >>= fun r => do holding [r] point; pure r) _ _ _
  exact wpAny_bind (wpAny_mono hc (fun r s' hr => wpAny_bind (wpAny_holding (wpAny_point (wpAny_pure hr)))) fun _ _ x => x)
theorem Room.made {C : Addr} {vs : List Value} (r : Room A d) : RoomF (A.under (.builtin "type.__call__" ⟨.ref C :: vs, []⟩)) d := by
  refine ⟨r.hh, ?_, ?_⟩
  · show A.depth + 1 + 5 * d + 147 < recursionLimit
    have := r.depth; omega
  · show A.units + 1 + 20 * d + 90 < cLine
    have := r.units; omega
theorem newV_some {T : Tab} {c k : Nat} {ms : List Val} (h : T.meth c 0 = some k) : newV T Φ c ms H = (match Φ k (.loc H.length :: ms) (H ++ [.inst c []]) with
    | .ok r H' => (match r with | .none => Res.ok (.loc H.length) H' | _ => .bad)
    | .exc e H' => .exc e H'
    | .bad => .bad) := by
  unfold newV
  rw [h]
  show M.bnd _ _ _ = _
  rw [bnd_ok (show M.alloc (.inst c []) H = .ok (.loc H.length) (H ++ [.inst c []]) from rfl)]
  cases e : Φ k (.loc H.length :: ms) (H ++ [.inst c []]) with
  | bad => rw [bnd_bad e]
  | exc x H' => rw [bnd_exc e]
  | ok r H' => rw [bnd_ok e]; cases r <;> rfl
theorem simK_new (CB : ClsBase cx N) (hΦ : FunsOk cx Φ d) (room : Room A d) (hfr : A.frames = some l) {c : Nat} {C : Addr} {ms : List Val} {vs : List Value} (hc : cx.cls[c]? = some (.ref C)) (R : Rel cx H ρ s) (vrs : VRs cx ρ s.heap ms vs) (fr : FramesOk cx l ρ s.heap) :
    SimK cx (newV cx.T Φ c ms H) (fun Q E s => wpAny (model cx.prog cx.w) A (call (.ref C) vs) Q E s) (Amb.vr cx) ρ s := by
  cases hk : cx.T.meth c 0 with
  | none => unfold newV; rw [hk]; trivial
  | some k =>
    have hks : (cx.T.meth c 0).isSome = true := by rw [hk]; rfl
    obtain ⟨nm, q, Nn, bs, sn, sub, col, dd, q0, q1, q2, q3, q5, mN, hC, hN, h1, h2, h3, h4, h5⟩ := (CB.cls c C hc hks).is
    obtain ⟨fa, fo, fd, hfa, hmN, hfo, hfc, hfd, hna, _⟩ := h5 _ 0 k CB.init hk
    rw [newV_some hk]
    have main : ∀ (Q : Value → Shared → Prop) (E : Value → Shared → Prop), (∀ h' x dx, Heap.MadeObj s.heap h' x dx C → wpAny (model cx.prog cx.w) (A.under (.builtin "type.__call__" ⟨.ref C :: vs, []⟩)) (call (.ref fa) (.ref x :: vs)) (fun r s' => r = .none ∧ Q (.ref x) s') E { s with heap := h' }) → wpAny (model cx.prog cx.w) A (call (.ref C) vs) Q E s := by
      intro Q E hq
      exact wpAny_call_obj_init F.objNew (R.base _ _ hC) (hN.keeps R.base) hmN (R.base _ _ hfo) hfc hq
    have inner : ∀ h' x dx, Heap.MadeObj s.heap h' x dx C → Full ρ s.heap (ρ ++ [(x, dx)]) h' ∧ SimAt cx (A.under (.builtin "type.__call__" ⟨.ref C :: vs, []⟩)) (Φ k (.loc H.length :: ms) (H ++ [.inst c []])) (call (.ref fa) (.ref x :: vs)) (Amb.vr cx) (ρ ++ [(x, dx)]) { s with heap := h' } := by
      intro h' x dx mo
      obtain ⟨o, ho, oc, od, odd⟩ := mo.inst
      have hdx := mo.dict o ho
      have nn : dx ≠ x ∧ h'.Ns1 dx (fun _ => none) := by
        rcases odd with ⟨w, _⟩ | ⟨b, w, w1, w2⟩
        · rw [hdx] at w; cases w
        · rw [hdx] at w; cases w; exact ⟨w1, w2⟩
      obtain ⟨F, R'⟩ := R.alloc (tk := s.toks) (o := .inst c []) (p := (x, dx)) mo.keeps ⟨mo.newX, mo.newD⟩ (.inst hks hc ho oc od hdx nn.1 nn.2 (fun n v hv => by cases hv) (fun y hy => absurd rfl hy))
      have vx : VR cx (ρ ++ [(x, dx)]) h' (.loc H.length) (.ref x) := VR.loc (p := (x, dx)) (by rw [R.len, List.getElem?_append_right (Nat.le_refl _)]; simp)
      exact ⟨F, hΦ k fa (.loc H.length :: ms) (.ref x :: vs) _ l hfa room.made hfr _ _ _ R' ⟨.cons vx (vrs.step F.step), fr.full F⟩⟩
    cases hr : Φ k (.loc H.length :: ms) (H ++ [.inst c []]) with
    | bad => trivial
    | exc e H' =>
      refine main _ _ fun h' x dx mo => ?_
      obtain ⟨F, sm⟩ := inner h' x dx mo
      rw [hr] at sm
      exact wpAny_mono sm (fun _ _ q => q.elim) fun ex s' ⟨ρ', F', R', fl⟩ => ⟨ρ', F.trans F', R', fl.older F.live⟩
    | ok r H' =>
      cases r with
      | none =>
        refine main _ _ fun h' x dx mo => ?_
        obtain ⟨F, sm⟩ := inner h' x dx mo
        rw [hr] at sm
        refine wpAny_mono sm (fun r' s' ⟨ρ', F', R', vr⟩ => ⟨VR.none_inv vr, ρ', F.trans F', R', ?_⟩) fun _ _ q => q.elim
        exact VR.loc (p := (x, dx)) (F'.grow.get (by rw [R.len, List.getElem?_append_right (Nat.le_refl _)]; simp))
      | _ => trivial
theorem eok_new (B : Base cx N) (hΦ : FunsOk cx Φ d) (room : Room A d) (hfr : A.frames = some l) {c : Nat} {es : MEs} {x : Str} {np pos : Pos} {xs : List Expr} (hg : isGlob sc x = true) (hk : hasNo N.clss x c = true) (hes : ckEs N sc ns es xs = true)
    (y' : Sim cx A ((Amb.env cx env sc ns Γ).and (Amb.frames cx l)) (spliced (xs.map fun e => (false, eval e env))) (evalEs cx.T Φ es Γ) (Amb.vrs cx)) :
    EOk cx A ((Amb.env cx env sc ns Γ).and (Amb.frames cx l)) Φ env Γ (.new c es) (.Call (.Name x np) xs [] pos) := by
  refine EOk.of ?_ rfl
  intro H ρ s R p
  first | rw [ev_call] | rw [ev_new] | rw [ev_umeth] | rw [ev_bf] | rw [ev_isinst] | rw [ev_bm]
  cases hm : cx.T.meth c 0 with
  | none => trivial
  | some k =>
    have hks : (cx.T.meth c 0).isSome = true := by rw [hm]; rfl
    obtain ⟨mg, mb, ng, nb, _, _, q, _⟩ := B.ns
    obtain ⟨Cv, hC, hx⟩ := q x c (hasNo_eq hk)
    obtain ⟨C, rfl⟩ := B.cls.ref c Cv hC hks
    obtain ⟨nm, qn, Nn, bs, sn, sub, col, dd, q0, q1, q2, q3, q5, mN, hCo, _⟩ := (B.cls.cls c C hC hks).is
    refine SimK.mono (simK_args (f := .ref C) (K := fun vs Q E s => s.heap.get? C = some (excClassObj nm qn C Nn bs [.type "object"] true sn sub false col dd q0 q1 q2 q3 q5 "object.__new__") ∧ wpAny (model cx.prog cx.w) A (call (.ref C) vs) Q E s) (fun e => ckEs_nil (e ▸ hes)) R (y' H ρ s R p) ?_ ?_) ?_
    · intro ms vs H1 ρ1 s1 _ F1 R1 vrs
      exact SimK.andK (R1.base _ _ hCo) (simK_new B.cls hΦ room hfr hC R1 vrs (p.2.full F1))
    · exact fun vs Q E Q' E' s h k1 k2 => ⟨h.1, wpAny_mono h.2 k1 k2⟩
    · intro Q E h
      refine wpAny_Call_ofName (wp_glob R p.1.st hg ng nb hx ?_)
      rw [plainArgs_trees pos (ckEs_plain hes)]
      exact callWith_own (any_false _) (wpAny_mono h (fun b s₁ h₁ => by obtain ⟨h1, h2, h3⟩ := h₁; exact ⟨h1, h2, h3⟩) fun _ _ q => q)
end
end Mine

-- part MEval
namespace Mine
open PySem
section
variable {cx : Cx} {N : Names} {A : Around} {Φ : Funs} {l : List Env} {d : Nat}

/- all that the walk over an expression leans on -/
structure Ground (cx : Cx) (N : Names) (A : Around) (Φ : Funs) (l : List Env) (d : Nat) : Prop where
  base : Base cx N
  room : Room A d
  frames : A.frames = some l
  funs : FunsOk cx Φ d
  defs : ∀ (f : Nat) (a : Addr), cx.fns[f]? = some a → ∃ g, cx.T.funs[f]? = some g
theorem Ground.u (G : Ground cx N A Φ l d) : A.units + 100 < cLine := by have := G.room.units; omega

/- the names of a frame are told apart -/
noncomputable def Apart (ns : List (Option Str)) : Prop := ∀ (i j : Nat) (y : Str), ns[i]? = some (some y) → ns[j]? = some (some y) → i = j

theorem bm_len {m : BM} {ms : List Val} {xs : List Expr} (h1 : (bmName m).2 = xs.length) (h2 : ms.length = xs.length) : ms.length = (bmName m).2 := by rw [h1, h2]

theorem bm_one (hu : A.units + 100 < cLine) (m : BM) (b : Val) (v : Value) (ms : List Val) (vs : List Value) (hl : ms.length = (bmName m).2) : Sim cx A ((Amb.vr cx b v).and (Amb.vrs cx ms vs)) (call (.builtin (bmAt m).2) (v :: vs)) (bmV m b ms) (Amb.vr cx) := by
  cases m with
  | append => exact bm_append b v ms vs hl
  | pop => exact bm_pop b v ms vs hl
  | get => exact bm_get hu b v ms vs hl

set_option maxHeartbeats 4000000 in
mutual
theorem eok (G : Ground cx N A Φ l d) : ∀ (m : ME) (e : Expr) (env : Env) (sc : Scope) (ns : List (Option Str)) (Γ : Env'), ck N sc ns m e = true → Apart ns → Γ.length = ns.length → EOk cx A ((Amb.env cx env sc ns Γ).and (Amb.frames cx l)) Φ env Γ m e
  | .none, e, env, sc, ns, Γ, h, _, _ => by
    obtain ⟨k, pos, rfl⟩ := inv_none h
    refine EOk.of (fun H ρ s R p => ?_) rfl
    rw [ev_none]
    exact simAt_pure R fun Q E k => wpAny_Constant_none (k _ s.toks .none)
  | .bool b, e, env, sc, ns, Γ, h, _, _ => by
    obtain ⟨k, pos, rfl⟩ := inv_bool h
    refine EOk.of (fun H ρ s R p => ?_) rfl
    rw [ev_bool]
    exact simAt_pure R fun Q E k => wpAny_Constant_bool (k _ s.toks (.bool b))
  | .int i, e, env, sc, ns, Γ, h, _, _ => by
    obtain ⟨k, pos, rfl⟩ := inv_int h
    refine EOk.of (fun H ρ s R p => ?_) rfl
    rw [ev_int]
    exact simAt_pure R fun Q E k => wpAny_Constant_int (k _ _ (.int _ _))
  | .glob k, e, env, sc, ns, Γ, h, _, _ => by
    obtain ⟨x, pos, rfl, h1, h2⟩ := inv_glob h
    exact EOk.of (sim_glob G.base h1 h2 Φ).and1 rfl
  | .var i, e, env, sc, ns, Γ, h, _, _ => by
    obtain ⟨x, pos, rfl, h1⟩ := inv_var h
    exact EOk.of (sim_var h1 Φ).and1 rfl
  | .bin op a b, e, env, sc, ns, Γ, h, ha, hΓ => by
    obtain ⟨x, o, y, pos, rfl, h1, h2, h3⟩ := inv_bin h
    exact eok_bin h1 (eok G a x env sc ns Γ h2 ha hΓ) (eok G b y env sc ns Γ h3 ha hΓ)
  | .neg a, e, env, sc, ns, Γ, h, ha, hΓ => by
    obtain ⟨x, pos, rfl, h1⟩ := inv_neg h
    exact eok_neg (eok G a x env sc ns Γ h1 ha hΓ)
  | .not a, e, env, sc, ns, Γ, h, ha, hΓ => by
    obtain ⟨x, pos, rfl, h1⟩ := inv_not h
    exact eok_not (eok G a x env sc ns Γ h1 ha hΓ)
  | .and a b, e, env, sc, ns, Γ, h, ha, hΓ => by
    obtain ⟨x, y, rest, pos, rfl, h1, h2⟩ := inv_and h
    refine eok_and (eok G a x env sc ns Γ h1 ha hΓ) ?_
    rcases h2 with ⟨rfl, h2⟩ | h2
    · exact EOks.one (eok G b y env sc ns Γ h2 ha hΓ)
    · exact EOks.more (eok G b _ env sc ns Γ h2 ha hΓ)
  | .or a b, e, env, sc, ns, Γ, h, ha, hΓ => by
    obtain ⟨x, y, rest, pos, rfl, h1, h2⟩ := inv_or h
    refine eok_or (eok G a x env sc ns Γ h1 ha hΓ) ?_
    rcases h2 with ⟨rfl, h2⟩ | h2
    · exact EOks.one (eok G b y env sc ns Γ h2 ha hΓ)
    · exact EOks.more (eok G b _ env sc ns Γ h2 ha hΓ)
  | .cmp op a b, e, env, sc, ns, Γ, h, ha, hΓ => by
    obtain ⟨x, y, pos, rfl, h1, h2, h3⟩ := inv_cmp h
    exact eok_cmp G.u h3 (eok G a x env sc ns Γ h1 ha hΓ) (eok G b y env sc ns Γ h2 ha hΓ)
  | .cmp2 op1 op2 a b c, e, env, sc, ns, Γ, h, ha, hΓ => by
    obtain ⟨x, y, z, pos, rfl, h1, h2, h3, h4⟩ := inv_cmp2 h
    exact eok_cmp2 G.u h4 (eok G a x env sc ns Γ h1 ha hΓ) (eok G b y env sc ns Γ h2 ha hΓ) (eok G c z env sc ns Γ h3 ha hΓ)
  | .sub a i, e, env, sc, ns, Γ, h, ha, hΓ => by
    obtain ⟨x, y, pos, rfl, h1, h2⟩ := inv_sub h
    exact eok_sub G.u (eok G a x env sc ns Γ h1 ha hΓ) (eok G i y env sc ns Γ h2 ha hΓ)
  | .tup es, e, env, sc, ns, Γ, h, ha, hΓ => by
    obtain ⟨xs, k, pos, rfl, h1, h2⟩ := inv_tup h
    exact EOk.of (sim_tup (ckEs_plain h1) h2 (fun _ _ _ e => evalEs_length h1 e) (eoks G es xs env sc ns Γ h1 ha hΓ)) rfl
  | .list es, e, env, sc, ns, Γ, h, ha, hΓ => by
    obtain ⟨xs, pos, rfl, h1, h2⟩ := inv_list h
    exact EOk.of (sim_list (ckEs_plain h1) h2 (fun _ _ _ e => evalEs_length h1 e) (eoks G es xs env sc ns Γ h1 ha hΓ)) rfl
  | .dict, e, env, sc, ns, Γ, h, ha, hΓ => by
    obtain ⟨pos, rfl⟩ := inv_dict h
    exact EOk.of sim_dict rfl
  | .attr a n, e, env, sc, ns, Γ, h, ha, hΓ => by
    obtain ⟨x, y, pos, rfl, h1, h2, h3⟩ := inv_attr h
    exact eok_attr G.base.cls h2 h3 (eok G a x env sc ns Γ h1 ha hΓ)
  | .call f es, e, env, sc, ns, Γ, h, ha, hΓ => by
    obtain ⟨x, np, xs, pos, rfl, h1, h2, h3, h4⟩ := inv_call h
    refine EOk.of ?_ rfl
    obtain ⟨mg, mb, ng, nb, q, _⟩ := G.base.ns
    obtain ⟨a, ha', _⟩ := q x f (hasNo_eq h2)
    exact sim_callU G.base G.funs G.room G.frames h1 h2 (G.defs f a ha') h3 (eoks G es xs env sc ns Γ h3 ha hΓ)
  | .new c es, e, env, sc, ns, Γ, h, ha, hΓ => by
    obtain ⟨x, np, xs, pos, rfl, h1, h2, h3, h4⟩ := inv_new h
    exact eok_new G.base G.funs G.room G.frames h1 h2 h3 (eoks G es xs env sc ns Γ h3 ha hΓ)
  | .umeth a m es, e, env, sc, ns, Γ, h, ha, hΓ => by
    obtain ⟨o, y, apos, xs, pos, rfl, h1, h2, h3, h4, h5, h6⟩ := inv_umeth h
    exact eok_umeth G.base.cls G.funs G.room G.frames h2 h3 h4 h5 h6 (eok G a o env sc ns Γ h1 ha hΓ) (eoks G es xs env sc ns Γ h3 ha hΓ)
  | .bf f es, e, env, sc, ns, Γ, h, ha, hΓ => by
    obtain ⟨x, np, xs, pos, rfl, h1, h2, h3, h4⟩ := inv_bf h
    exact eok_bf G.base G.room.hh G.u h1 h2 h3 h4 (eoks G es xs env sc ns Γ h4 ha hΓ)
  | .bm a m es, e, env, sc, ns, Γ, h, ha, hΓ => by
    obtain ⟨o, y, apos, xs, pos, rfl, h1, rfl, h3, h4, h5, h6⟩ := inv_bm h
    refine EOk.of ?_ rfl
    exact sim_bm h5 (ckEs_plain h4) (by rw [← h3]; cases m <;> decide) (fun e => ckEs_nil (e ▸ h4)) h6 (eok G a o env sc ns Γ h1 ha hΓ).val (eoks G es xs env sc ns Γ h4 ha hΓ)
      (fun b v ms vs hl => bm_one G.u m b v ms vs (bm_len h3 hl)) (fun _ _ _ e => evalEs_length h4 e)
  | .isinst a t, e, env, sc, ns, Γ, h, ha, hΓ => by
    obtain ⟨f, np, x, y, yp, pos, rfl, h1, h2, h3, h4, h5⟩ := inv_isinst h
    have z := eok G a x env sc ns Γ h4 ha hΓ
    cases t with
    | cls c => cases h5
    | int => exact eok_isi G.base (fun c => by intro q; cases q) h1 h2 h3 (of_decide_eq_true h5) (ck_notStar h4) z
    | bool => exact eok_isi G.base (fun c => by intro q; cases q) h1 h2 h3 (of_decide_eq_true h5) (ck_notStar h4) z
    | str => exact eok_isi G.base (fun c => by intro q; cases q) h1 h2 h3 (of_decide_eq_true h5) (ck_notStar h4) z
    | tuple => exact eok_isi G.base (fun c => by intro q; cases q) h1 h2 h3 (of_decide_eq_true h5) (ck_notStar h4) z
    | list => exact eok_isi G.base (fun c => by intro q; cases q) h1 h2 h3 (of_decide_eq_true h5) (ck_notStar h4) z
  | .comp elt it cond, e, env, sc, ns, Γ, h, ha, hΓ => by
    obtain ⟨el, x, px, i, ifs, csc, pos, rfl, h1, h2, h3, h4, h5⟩ := inv_comp h
    exact eok_comp G.room.hh h2 h3 ha hΓ ⟨fun cenv Γ' hΓ' => econd G cond ifs cenv csc _ Γ' h5 (inner_inj ha (compOk_parts h3).2.1) hΓ', fun cenv Γ' hΓ' => (eok G elt el cenv csc _ Γ' h4 (inner_inj ha (compOk_parts h3).2.1) hΓ').val⟩ (eok G it i env sc ns Γ h1 ha hΓ)
theorem eopt (G : Ground cx N A Φ l d) : ∀ (o : MEo) (x : Option Expr) (env : Env) (sc : Scope) (ns : List (Option Str)) (Γ : Env'), ckO N sc ns o x = true → Apart ns → Γ.length = ns.length → Sim cx A ((Amb.env cx env sc ns Γ).and (Amb.frames cx l)) (evalPart x env) (evalO cx.T Φ o Γ) (Amb.vr cx)
  | .none, none, env, sc, ns, Γ, _, _, _ => by
    intro H ρ s R p
    rw [evalPart_none]
    exact wpAny_pure ⟨ρ, Full.refl _ _, R, .none⟩
  | .some e, some x, env, sc, ns, Γ, h, ha, hΓ => by
    rw [evalPart_some]
    exact (eok G e x env sc ns Γ h ha hΓ).val
  | .none, some _, env, sc, ns, Γ, h, ha, hΓ => by cases (show false = true from h)
  | .some _, none, env, sc, ns, Γ, h, ha, hΓ => by cases (show false = true from h)
theorem econd (G : Ground cx N A Φ l d) : ∀ (cond : MEo) (ifs : List Expr) (cenv : Env) (csc : Scope) (ns' : List (Option Str)) (Γ' : Env'), ckC N csc ns' cond ifs = true → Apart ns' → Γ'.length = ns'.length →
    Sim cx A ((Amb.env cx cenv csc ns' Γ').and (Amb.frames cx l)) (forIn ifs true fun c r => if r = true then do let ok ← isTrue c cenv (eval c cenv); pure (ForInStep.yield ok) else pure (ForInStep.yield r)) (evalC cx.T Φ cond Γ') BV
  | .none, [], cenv, csc, ns', Γ', h2, ha, hΓ => by
    intro H ρ s R p
    exact wpAny_tests_nil ⟨ρ, Full.refl _ _, R, rfl⟩
  | .some c, [i], cenv, csc, ns', Γ', h2, ha, hΓ => by
    rw [evc_some]
    exact (eok G c i cenv csc ns' Γ' h2 ha hΓ).tru.pre fun Q E s h => wpAny_tests_one h
  | .none, _ :: _, cenv, csc, ns', Γ', h2, ha, hΓ => by cases (show false = true from h2)
  | .some _, [], cenv, csc, ns', Γ', h2, ha, hΓ => by cases (show false = true from h2)
  | .some _, _ :: _ :: _, cenv, csc, ns', Γ', h2, ha, hΓ => by cases (show false = true from h2)
theorem eoks (G : Ground cx N A Φ l d) : ∀ (ms : MEs) (xs : List Expr) (env : Env) (sc : Scope) (ns : List (Option Str)) (Γ : Env'), ckEs N sc ns ms xs = true → Apart ns → Γ.length = ns.length →
    Sim cx A ((Amb.env cx env sc ns Γ).and (Amb.frames cx l)) (spliced (xs.map fun e => (false, eval e env))) (evalEs cx.T Φ ms Γ) (Amb.vrs cx)
  | .nil, [], env, sc, ns, Γ, h, ha, hΓ => sim_nil
  | .nil, _ :: _, env, sc, ns, Γ, h, ha, hΓ => by cases (show false = true from h)
  | .cons _ _, [], env, sc, ns, Γ, h, ha, hΓ => by cases (show false = true from h)
  | .cons m ms, x :: xs, env, sc, ns, Γ, h, ha, hΓ => by
    have h := And.intro (an1 h) (an2 h)
    exact sim_cons (eok G m x env sc ns Γ h.1 ha hΓ).val (eoks G ms xs env sc ns Γ h.2 ha hΓ)
end
end
end Mine

-- part MExec
namespace Mine
open PySem
section
variable {cx : Cx} {N : Names} {A : Around} {Φ : Funs} {l : List Env} {d : Nat} {env : Env} {sc : Scope} {ns : List (Option Str)} {Γ : Env'} {H : Hp} {ρ ρ' : Rho} {s : Shared}

noncomputable def SimSK (cx : Cx) (env : Env) (sc : Scope) (ns : List (Option Str)) (r : ResS) (T : (Flow → Shared → Prop) → (Value → Shared → Prop) → Shared → Prop) (ρ : Rho) (s : Shared) : Prop :=
  match r with
  | .bad => True
  | .next Γ' H' => T (fun f s' => f = .next ∧ ∃ ρ', FullS env ρ s.heap ρ' s'.heap ∧ Rel cx H' ρ' s' ∧ EnvOk cx env sc ns Γ' ρ' s'.heap) (fun _ _ => False) s
  | .ret v H' => T (fun f s' => ∃ v' ρ', f = .ret v' ∧ FullS env ρ s.heap ρ' s'.heap ∧ Rel cx H' ρ' s' ∧ VR cx ρ' s'.heap v v') (fun _ _ => False) s
  | .exc c Γ' H' => T (fun _ _ => False) (fun e s' => ∃ ρ', FullS env ρ s.heap ρ' s'.heap ∧ Rel cx H' ρ' s' ∧ EnvOk cx env sc ns Γ' ρ' s'.heap ∧ Flying cx ρ' s.heap s'.heap c e) s
theorem SimSK.of {r : ResS} {t : Sem Flow} (x : SimSAt cx A env sc ns r t ρ s) : SimSK cx env sc ns r (fun Q E s => wpAny (model cx.prog cx.w) A t Q E s) ρ s := by cases r <;> exact x
theorem SimSK.to {r : ResS} {t : Sem Flow} (x : SimSK cx env sc ns r (fun Q E s => wpAny (model cx.prog cx.w) A t Q E s) ρ s) : SimSAt cx A env sc ns r t ρ s := by cases r <;> exact x
theorem SimSK.mono {r : ResS} {T T' : (Flow → Shared → Prop) → (Value → Shared → Prop) → Shared → Prop} (x : SimSK cx env sc ns r T ρ s) (k : ∀ Q E, T Q E s → T' Q E s) : SimSK cx env sc ns r T' ρ s := by cases r <;> first | trivial | exact k _ _ x
/- from a state that came by a step that keeps all but the frame -/
theorem SimSAt.bindK {α β : Type} {t : Sem α} {m : M β} {V : β → α → Amb} {g : β → Hp → ResS} {K : α → (Flow → Shared → Prop) → (Value → Shared → Prop) → Shared → Prop} {K' : (Flow → Shared → Prop) → (Value → Shared → Prop) → Shared → Prop} (e0 : EnvOk cx env sc ns Γ ρ s.heap) (x : SimAt cx A (m H) t V ρ s)
    (y : ∀ b a H' ρ' s', m H = .ok b H' → Full ρ s.heap ρ' s'.heap → Rel cx H' ρ' s' → EnvOk cx env sc ns Γ ρ' s'.heap → (V b a).P ρ' s'.heap → SimSK cx env sc ns (g b H') (K a) ρ' s')
    (mk : ∀ a, MonoK (K a))
    (k : ∀ Q E, wpAny (model cx.prog cx.w) A t (fun a s' => K a Q E s') E s → K' Q E s) :
    SimSK cx env sc ns (bndS m Γ g H) K' ρ s := by
  unfold bndS
  cases e : m H with
  | bad => trivial
  | exc c H' =>
    rw [e] at x
    exact k _ _ (wpAny_mono x (fun _ _ q => q.elim) fun ex s' ⟨ρ', F, R, fl⟩ => ⟨ρ', F.toS, R, e0.full F, fl⟩)
  | ok b H' =>
    rw [e] at x
    show SimSK cx env sc ns (g b H') K' ρ s
    cases e2 : g b H' with
    | bad => trivial
    | next Γ2 H2 =>
      refine k _ _ (wpAny_mono x (fun a s' ⟨ρ', F, R, v⟩ => ?_) fun _ _ q => q.elim)
      have z := y b a H' ρ' s' e F R (e0.full F) v
      rw [e2] at z
      exact mk a _ _ _ _ _ z (fun f s'' ⟨h1, ρ'', F', R', e'⟩ => ⟨h1, ρ'', F.toS.trans F', R', e'⟩) fun _ _ q => q.elim
    | ret v2 H2 =>
      refine k _ _ (wpAny_mono x (fun a s' ⟨ρ', F, R, v⟩ => ?_) fun _ _ q => q.elim)
      have z := y b a H' ρ' s' e F R (e0.full F) v
      rw [e2] at z
      exact mk a _ _ _ _ _ z (fun f s'' ⟨v', ρ'', h1, F', R', e'⟩ => ⟨v', ρ'', h1, F.toS.trans F', R', e'⟩) fun _ _ q => q.elim
    | exc c2 Γ2 H2 =>
      refine k _ _ (wpAny_mono x (fun a s' ⟨ρ', F, R, v⟩ => ?_) fun _ _ q => q.elim)
      have z := y b a H' ρ' s' e F R (e0.full F) v
      rw [e2] at z
      exact mk a _ _ _ _ _ z (fun _ _ q => q) fun ex s'' ⟨ρ'', F', R', e', fl⟩ => ⟨ρ'', F.toS.trans F', R', e', fl.older F.live⟩
theorem SimSK.look {β : Type} {f : Hp → Option β} {g : β → Hp → ResS} {K : (Flow → Shared → Prop) → (Value → Shared → Prop) → Shared → Prop} (y : ∀ b, f H = some b → SimSK cx env sc ns (g b H) K ρ s) : SimSK cx env sc ns (bndS (M.look f) Γ g H) K ρ s := by
  unfold bndS
  cases e : f H with
  | none => rw [look_none e]; trivial
  | some b => rw [look_some e]; exact y b e

theorem FramesOk.stmt {h h' : Heap} (fr : FramesOk cx l ρ h) (F : FullS env ρ h ρ' h') (e0 : EnvSt cx env sc ρ h) (e1 : EnvSt cx env sc ρ' h') : FramesOk cx l ρ' h' := fun en he => by
  obtain ⟨k, L, o, h1, h2, h3, h5, h6⟩ := fr en he
  by_cases q : L = env.locals
  · obtain ⟨m, o', es, ep, e', d, _⟩ := e1.loc
    rw [← q] at e'
    exact ⟨k, L, o', h1, h2, e', ⟨_, _, d⟩, by rw [q]; exact e1.locN⟩
  · obtain ⟨es, n, hd⟩ := h5
    obtain ⟨o', e', u⟩ := F.keep L o h3 h6 q (e0.notCell h3 fun v w => by rw [hd] at w; cases w)
    exact ⟨k, L, o', h1, h2, e', ⟨es, n, by rw [u.data]; exact hd⟩, F.grow.not h6 h3⟩

/- one statement, then the others -/
theorem sim_then {st : Stmt} {rest : List Stmt} {m : Env' → Hp → ResS} {g : Env' → Hp → ResS} (e0 : EnvOk cx env sc ns Γ ρ s.heap) (fr : FramesOk cx l ρ s.heap) (x : SimSAt cx A env sc ns (m Γ H) (exec st env) ρ s) (y : SimS cx A l env sc ns (execs rest env) g) :
    SimSAt cx A env sc ns (thenS (m Γ H) g) (execs (st :: rest) env) ρ s := by
  cases e : m Γ H with
  | bad => trivial
  | ret v H' =>
    rw [e] at x
    exact wpAny_execs_cons (wpAny_mono x (fun f s' q => by obtain ⟨v', ρ', rfl, q⟩ := q; exact ⟨v', ρ', rfl, q⟩) fun _ _ q => q)
  | exc c Γ' H' =>
    rw [e] at x
    exact wpAny_execs_cons (wpAny_mono x (fun f s' q => q.elim) fun _ _ q => q)
  | next Γ' H' =>
    rw [e] at x
    show SimSAt cx A env sc ns (g Γ' H') _ ρ s
    cases e2 : g Γ' H' with
    | bad => trivial
    | next Γ2 H2 =>
      refine wpAny_execs_cons (wpAny_mono x (fun f s' q => ?_) fun _ _ q => q.elim)
      obtain ⟨rfl, ρ', F, R, e'⟩ := q
      have z := y Γ' H' ρ' s' R e' (fr.stmt F e0.st e'.st)
      rw [e2] at z
      exact wpAny_mono z (fun f s'' ⟨h1, ρ'', F', R', e'⟩ => ⟨h1, ρ'', F.trans F', R', e'⟩) fun _ _ q => q.elim
    | ret v2 H2 =>
      refine wpAny_execs_cons (wpAny_mono x (fun f s' q => ?_) fun _ _ q => q.elim)
      obtain ⟨rfl, ρ', F, R, e'⟩ := q
      have z := y Γ' H' ρ' s' R e' (fr.stmt F e0.st e'.st)
      rw [e2] at z
      exact wpAny_mono z (fun f s'' ⟨v', ρ'', h1, F', R', e'⟩ => ⟨v', ρ'', h1, F.trans F', R', e'⟩) fun _ _ q => q.elim
    | exc c2 Γ2 H2 =>
      refine wpAny_execs_cons (wpAny_mono x (fun f s' q => ?_) fun _ _ q => q.elim)
      obtain ⟨rfl, ρ', F, R, e'⟩ := q
      have z := y Γ' H' ρ' s' R e' (fr.stmt F e0.st e'.st)
      rw [e2] at z
      exact wpAny_mono z (fun _ _ q => q.elim) fun ex s'' ⟨ρ'', F', R', e', fl⟩ => ⟨ρ'', F.trans F', R', e', fl.older F.live⟩

theorem sk_assign {i : Nat} {y : Str} {mv : Val} {v : Value} (ha : Apart ns) (R : Rel cx H ρ s) (e0 : EnvOk cx env sc ns Γ ρ s.heap) (ho : isOwn sc ns i y = true) (hv : VR cx ρ s.heap mv v) :
    SimSK cx env sc ns (.next (Γ.set i (some mv)) H) (fun Q E s => wpAny (model cx.prog cx.w) A (storeName env y v) (fun _ => Q .next) E s) ρ s :=
  store_var e0.len ha R e0 ho hv fun h' tk F' R' e' _ => ⟨rfl, ρ, F', R', e'⟩

theorem monoK_store {y : Str} {v : Value} : MonoK (α := Flow) fun Q E s => wpAny (model cx.prog cx.w) A (storeName env y v) (fun _ => Q .next) E s := fun _ _ _ _ _ h k1 k2 => wpAny_mono h (fun _ _ => k1 _ _) k2
end
end Mine

-- part MWalk
namespace Mine
open PySem
section
variable {cx : Cx} {N : Names} {A : Around} {Φ : Funs} {l : List Env} {d : Nat} {env : Env} {sc : Scope} {ns : List (Option Str)} {Γ : Env'} {H : Hp} {ρ ρ' : Rho} {s : Shared}

/- what a statement owes -/
noncomputable def PostS (cx : Cx) (env : Env) (sc : Scope) (ns : List (Option Str)) (ρ : Rho) (h : Heap) (r : ResS) (Q : Flow → Shared → Prop) (E : Value → Shared → Prop) : Prop :=
  match r with
  | .bad => True
  | .next Γ' H' => ∀ s' ρ', FullS env ρ h ρ' s'.heap → Rel cx H' ρ' s' → EnvOk cx env sc ns Γ' ρ' s'.heap → Q .next s'
  | .ret v H' => ∀ s' ρ' v', FullS env ρ h ρ' s'.heap → Rel cx H' ρ' s' → VR cx ρ' s'.heap v v' → Q (.ret v') s'
  | .exc c Γ' H' => ∀ e s' ρ', FullS env ρ h ρ' s'.heap → Rel cx H' ρ' s' → EnvOk cx env sc ns Γ' ρ' s'.heap → Flying cx ρ' h s'.heap c e → E e s'
theorem SimSK.ofPost {r : ResS} {T : (Flow → Shared → Prop) → (Value → Shared → Prop) → Shared → Prop} (k : ∀ Q E, r ≠ .bad → PostS cx env sc ns ρ s.heap r Q E → T Q E s) : SimSK cx env sc ns r T ρ s := by
  cases r with
  | bad => trivial
  | next Γ' H' => exact k _ _ (fun q => by cases q) fun s' ρ' F R e => ⟨rfl, ρ', F, R, e⟩
  | ret v H' => exact k _ _ (fun q => by cases q) fun s' ρ' v' F R e => ⟨v', ρ', rfl, F, R, e⟩
  | exc c Γ' H' => exact k _ _ (fun q => by cases q) fun e s' ρ' F R e' fl => ⟨ρ', F, R, e', fl⟩
/- objects that are new since h are turned -/
theorem FullS.fresh {h h1 h2 : Heap} {qs : List Addr} (F : FullS env ρ h ρ' h1) (hq : ∀ q ∈ qs, h.get? q = none) (hs : ∀ b o, b ∉ qs → ¬ Owned ρ' b → h1.get? b = some o → h2.get? b = some o) (lv : Live h1 h2) : FullS env ρ h ρ' h2 := by
  refine ⟨F.grow, fun b o e n n1 n2 => ?_, F.live.trans lv⟩
  obtain ⟨o', e', u⟩ := F.keep b o e n n1 n2
  refine ⟨o', hs b o' (fun w => ?_) (F.grow.not n e) e', u⟩
  rw [hq b w] at e; cases e
theorem EnvOk.priv {h h' : Heap} {qs : List Addr} (x : EnvOk cx env sc ns Γ ρ h) (hs : ∀ b o, b ∉ qs → ¬ Owned ρ b → h.get? b = some o → h'.get? b = some o) (hq : ∀ q ∈ qs, ∃ o, h.get? q = some o ∧ IterO o) (st : Step ρ h ρ h') : EnvOk cx env sc ns Γ ρ h' := by
  have nl : env.locals ∉ qs := fun w => by obtain ⟨o, e, i⟩ := hq _ w; exact x.st.notLoc e i.notDict rfl
  have nc : ∀ y c, env.cells.lookup y = some c → c ∉ qs := fun y c hc w => by obtain ⟨o, e, i⟩ := hq _ w; exact x.st.notCell e i.notCell y hc
  have kl : ∀ o, h.get? env.locals = some o → ∃ o', h'.get? env.locals = some o' ∧ o'.data = o.data := fun o e => ⟨o, hs _ o nl x.st.locN e, rfl⟩
  have kc : ∀ y c, env.cells.lookup y = some c → ∀ o, h.get? c = some o → ∃ o', h'.get? c = some o' ∧ o'.data = o.data := fun y c hc o e => ⟨o, hs _ o (nc y c hc) (x.st.cells y c hc).2.1 e, rfl⟩
  obtain ⟨m, hm⟩ := x.st.loc
  refine ⟨⟨x.st.fn, x.st.glob, x.st.blt, x.st.kinds, ⟨m, Heap_Ns_keep hm kl⟩, x.st.locN, x.st.locB, fun y c hc => ?_, x.st.hasCell, x.st.apart⟩, x.len, fun i y mv hi hm => ?_⟩
  · obtain ⟨⟨v, hv⟩, a, b⟩ := x.st.cells y c hc
    exact ⟨⟨v, IsCell_keep hv (kc y c hc)⟩, a, b⟩
  · obtain ⟨v, hv, r⟩ := x.vals i y mv hi hm
    refine ⟨v, ?_, r.step st⟩
    rcases hv with ⟨k, m, hm, e⟩ | ⟨k, c, hc, e⟩
    · exact .inl ⟨k, m, Heap_Ns_keep hm kl, e⟩
    · exact .inr ⟨k, c, hc, IsCell_keep e (kc y c hc)⟩

/- how a loop's items come -/
structure Walk (cx : Cx) (A : Around) (it : Value) (target : Expr) (xs : List Val) (ck : Hp → Bool) where
  Ok : Nat → Rho → Heap → Prop
  priv : List Addr
  obj : ∀ {i ρ h}, Ok i ρ h → ∀ q ∈ priv, (∃ o, h.get? q = some o ∧ IterO o) ∧ ¬ Owned ρ q
  step : ∀ {i ρ h ρ' h'}, Ok i ρ h → Step ρ h ρ' h' → (∀ q ∈ priv, (∀ o, h.get? q = some o → h'.get? q = some o) ∧ ¬ Owned ρ' q) → Ok i ρ' h'
  item : ∀ {i : Nat} {ρ : Rho} {H : Hp} {s : Shared} {m : Val} {Q : Value → Shared → Prop} {E E' : Value → Shared → Prop} {QQ : Option Value → Shared → Prop}, Rel cx H ρ s → Ok i ρ s.heap → ck H = true → xs[i]? = some m → (∀ q ∈ priv, cx.h₀.get? q = none) →
    (∀ v s₁, wpAny (model cx.prog cx.w) A (letOwnedTupleGo target it v) (fun _ s₂ => Q v s₂) E' s₁ → QQ (some v) s₁) →
    (∀ v h' tk, Rel cx H ρ { s with heap := h', toks := tk } → Step ρ s.heap ρ h' → (∀ b o, b ∉ priv → ¬ Owned ρ b → s.heap.get? b = some o → h'.get? b = some o) → Live s.heap h' → VR cx ρ h' m v → Ok (i + 1) ρ h' → Q v { s with heap := h', toks := tk }) →
    wpAny (model cx.prog cx.w) A (pyNext it) QQ E s
  fin : ∀ {i : Nat} {ρ : Rho} {H : Hp} {s : Shared} {Q : Option Value → Shared → Prop} {E : Value → Shared → Prop}, Rel cx H ρ s → Ok i ρ s.heap → ck H = true → xs[i]? = none → (∀ q ∈ priv, cx.h₀.get? q = none) →
    (∀ h' tk, Rel cx H ρ { s with heap := h', toks := tk } → Step ρ s.heap ρ h' → (∀ b o, b ∉ priv → ¬ Owned ρ b → s.heap.get? b = some o → h'.get? b = some o) → Q none { s with heap := h', toks := tk }) →
    wpAny (model cx.prog cx.w) A (pyNext it) Q E s

/- how a loop's target takes an item -/
noncomputable def BindOk (cx : Cx) (A : Around) (env : Env) (sc : Scope) (ns : List (Option Str)) (target : Expr) (bind : Val → Env' → Option Env') : Prop :=
  ∀ (Γ Γ' : Env') (H : Hp) (ρ : Rho) (s : Shared) (m : Val) (v : Value) (Q : Unit → Shared → Prop) (E : Value → Shared → Prop), bind m Γ = some Γ' → Rel cx H ρ s → EnvOk cx env sc ns Γ ρ s.heap → VR cx ρ s.heap m v →
    (∀ h' tk, FullS env ρ s.heap ρ h' → Rel cx H ρ { s with heap := h', toks := tk } → EnvOk cx env sc ns Γ' ρ h' → Q () { s with heap := h', toks := tk }) → wpAny (model cx.prog cx.w) A (assign target env v) Q E s

theorem bind_name {i : Nat} {y : Str} {py : Pos} (ha : Apart ns) (ho : isOwn sc ns i y = true) : BindOk cx A env sc ns (.Name y py) (bind1 i) := by
  intro Γ Γ' H ρ s m v Q E hb R e0 vr k
  cases hb
  exact wpAny_assign_Name (store_var e0.len ha R e0 ho vr fun h' tk F R' e' _ => k h' tk F R' e')

theorem sim_loop {it : Value} {target : Expr} {xs : List Val} {ck : Hp → Bool} {bind : Val → Env' → Option Env'} {body : MSs} {stmts : List Stmt} {ρ₁ : Rho} {s₁ : Shared} (W : Walk cx A it target xs ck) (hfr : A.frames = some (env :: l)) (hB : BindOk cx A env sc ns target bind)
    (hb : SimS cx A (env :: l) env sc ns (execs stmts env) (execSs cx.T Φ body))
    (e1 : EnvOk cx env sc ns Γ ρ₁ s₁.heap) (fr : FramesOk cx (env :: l) ρ₁ s₁.heap) (lvB : Live cx.h₀ s₁.heap) (hpriv : ∀ q ∈ W.priv, s₁.heap.get? q = none)
    {s : Shared} {H : Hp} {ρ : Rho} (F0 : FullS env ρ₁ s₁.heap ρ s.heap) (R0 : Rel cx H ρ s) (e0 : EnvOk cx env sc ns Γ ρ s.heap) (ok : W.Ok 0 ρ s.heap) {Q : Flow → Shared → Prop} {E : Value → Shared → Prop}
    (nb : eachL ck bind (execSs cx.T Φ body) xs Γ H ≠ .bad) (p : PostS cx env sc ns ρ₁ s₁.heap (eachL ck bind (execSs cx.T Φ body) xs Γ H) Q E) :
    codeAny (model cx.prog cx.w) A (.forLoop target it stmts [] env) (fun r s' => match r with | .ok f => Q f s' | .error e => cameBackBy (model cx.prog cx.w) A env E e s') s := by
  generalize hres : eachL ck bind (execSs cx.T Φ body) xs Γ H = res at nb p
  refine codeAny_forLoop_any (fun n s => ∃ i Γ H ρ, FullS env ρ₁ s₁.heap ρ s.heap ∧ Rel cx H ρ s ∧ EnvOk cx env sc ns Γ ρ s.heap ∧ W.Ok i ρ s.heap ∧ i ≤ xs.length ∧ n = xs.length + 1 - i ∧ eachL ck bind (execSs cx.T Φ body) (xs.drop i) Γ H = res) ?_ (xs.length + 1)
    ⟨0, Γ, H, ρ, F0, R0, e0, ok, Nat.zero_le _, rfl, hres⟩
  have privB : ∀ q ∈ W.priv, cx.h₀.get? q = none := fun q hq => lvB.none (hpriv q hq)
  clear F0 R0 e0 ok hres
  rintro n s ⟨i, Γ, H, ρ, F, R, e0, ok, hi, rfl, hr⟩
  cases hx : xs[i]? with
  | none =>
    rw [List.drop_eq_nil_of_le (List.getElem?_eq_none_iff.mp hx)] at hr
    unfold eachL at hr
    by_cases ckh : ck H = true
    · rw [if_pos ckh] at hr
      subst hr
      refine W.fin R ok ckh hx privB fun h' tk R' st ex => ?_
      refine wpAny_execs_nil ?_
      have e' : EnvOk cx env sc ns Γ ρ h' := e0.priv ex (fun q hq => (W.obj ok q hq).1) st
      have F' : FullS env ρ₁ s₁.heap ρ h' := by
        refine ⟨F.grow, fun b o e n n1 n2 => ?_, fun b o e => ?_⟩
        · obtain ⟨o', eo', u⟩ := F.keep b o e n n1 n2
          exact ⟨o', ex b o' (fun w => by rw [hpriv b w] at e; cases e) (F.grow.not n e) eo', u⟩
        · by_cases ow : Owned ρ b
          · exact R'.owned_lt ow
          · obtain ⟨o', eo'⟩ := F.live b o e
            exact ⟨o', ex b o' (fun w => by rw [hpriv b w] at e; cases e) ow eo'⟩
      exact p _ ρ F' R' e'
    · rw [if_neg ckh] at hr; exact absurd hr.symm nb
  | some m =>
    have lt : i < xs.length := (List.getElem?_eq_some_iff.mp hx).1
    have hdrop : xs.drop i = m :: xs.drop (i + 1) := by
      rw [List.drop_eq_getElem_cons lt]
      rw [List.getElem?_eq_getElem lt] at hx
      cases hx; rfl
    rw [hdrop] at hr
    unfold eachL at hr
    by_cases ckh : ck H = true
    · rw [if_pos ckh] at hr
      cases hbd : bind m Γ with
      | none => rw [hbd] at hr; exact absurd hr.symm nb
      | some Γ1 =>
        rw [hbd] at hr
        dsimp only at hr
        refine W.item R ok ckh hx privB (fun v s₁ h => h) fun v h' tk R' st ex lv vr ok' => ?_
        · -- what comes behind the item
          have e' : EnvOk cx env sc ns Γ ρ h' := e0.priv ex (fun q hq => (W.obj ok q hq).1) st
          have F' : FullS env ρ₁ s₁.heap ρ h' := F.fresh hpriv ex lv
          refine hB Γ Γ1 H ρ { s with heap := h', toks := tk } m v _ _ hbd R' e' vr fun h2 tk2 F2 R2 e2 => ?_
          have F12 : FullS env ρ₁ s₁.heap ρ h2 := F'.trans F2
          have priv2 : ∀ q ∈ W.priv, (∀ o, h'.get? q = some o → h2.get? q = some o) ∧ ¬ Owned ρ q := fun q hq => by
            obtain ⟨⟨o, eo, io⟩, no⟩ := W.obj ok' q hq
            refine ⟨fun o2 eo2 => ?_, no⟩
            rw [eo] at eo2; cases eo2
            obtain ⟨o3, eo3, u⟩ := F2.keep q o eo no (e'.st.notLoc eo io.notDict) (e'.st.notCell eo io.notCell)
            rw [eo3, u.exact io.notDict]
          have ok2 : W.Ok (i + 1) ρ h2 := W.step ok' (FullS.step e'.st F2) priv2
          have fr2 : FramesOk cx (env :: l) ρ h2 := fr.stmt F12 e1.st e2.st
          have B := hb Γ1 H ρ { s with heap := h2, toks := tk2 } R2 e2 fr2
          cases hbody : execSs cx.T Φ body Γ1 H with
          | bad => rw [hbody] at hr; exact absurd hr.symm nb
          | next Γ3 H3 =>
            rw [hbody] at hr B
            dsimp only [thenS] at hr
            refine wpAny_mono B (fun f s3 q => ?_) fun _ _ q => q.elim
            obtain ⟨rfl, ρ3, F3, R3, e3⟩ := q
            refine ⟨xs.length + 1 - (i + 1), by omega, i + 1, Γ3, H3, ρ3, F12.trans F3, R3, e3, ?_, lt, rfl, hr⟩
            refine W.step ok2 (FullS.step e2.st F3) fun q hq => ?_
            obtain ⟨⟨o, eo, io⟩, no⟩ := W.obj ok2 q hq
            refine ⟨fun o2 eo2 => ?_, F3.grow.not no eo⟩
            rw [eo] at eo2; cases eo2
            obtain ⟨o3, eo3, u⟩ := F3.keep q o eo no (e2.st.notLoc eo io.notDict) (e2.st.notCell eo io.notCell)
            rw [eo3, u.exact io.notDict]
          | ret v3 H3 =>
            rw [hbody] at hr B
            dsimp only [thenS] at hr
            subst hr
            refine wpAny_mono B (fun f s3 q => ?_) fun _ _ q => q.elim
            obtain ⟨v', ρ3, rfl, F3, R3, vr3⟩ := q
            exact p s3 ρ3 v' (F12.trans F3) R3 vr3
          | exc c3 Γ3 H3 =>
            rw [hbody] at hr B
            dsimp only [thenS] at hr
            exact absurd hr.symm nb
    · rw [if_neg ckh] at hr; exact absurd hr.symm nb

/- the plain iterators -/
noncomputable def plainWalk (hh : A.handled = none) (xs : List Val) (I : Addr) (src : Option Nat) (y : Str) (py : Pos) : Walk cx A (.ref I) (.Name y py) xs (chk src xs) where
  Ok i ρ h := ItOk cx xs I i ρ h src ∧ ¬ Owned ρ I
  priv := [I]
  obj := fun ⟨h1, h2⟩ q hq => by rw [List.mem_singleton.mp hq]; exact ⟨h1.obj, h2⟩
  step := fun ⟨h1, h2⟩ st k => ⟨h1.step st (k I (.head _)).1, (k I (.head _)).2⟩
  item := by
    intro i ρ H s m Q E E' QQ R ⟨ok, no⟩ ck hx hb qq k
    obtain ⟨o, e, io⟩ := ok.obj
    refine iter_item R ok ck hx fun v h' tk hs hl kk => qq v _ ?_
    obtain ⟨o', e'⟩ := hl
    have st : Step ρ s.heap ρ h' := Step.but e' e hs io.not.1 io.not.2
    obtain ⟨vr, ok'⟩ := kk st
    refine wpAny_pure (k v h' tk (R.but e' e hs io.not.1 io.not.2 no (hb I (.head _))) st (fun b o nb _ eb => by rw [hs.2 b (fun w => nb (w ▸ .head _))]; exact eb) (SameBut.live hs e') vr ⟨ok', no⟩)
  fin := by
    intro i ρ H s Q E R ⟨ok, no⟩ ck hx hb k
    obtain ⟨o, e, io⟩ := ok.obj
    refine iter_end hh R ok ck hx fun h' tk he => ?_
    exact k h' tk (R.ext e he io.not.1 io.not.2 no (hb I (.head _))) (Step.ext e he io.not.1 io.not.2) fun b o nb _ eb => he b o (fun w => nb (w ▸ .head _)) eb

theorem cameBack_mono {E E' : Value → Shared → Prop} {e : Value} {M : Model} (h : cameBackBy M A env E e s) (k : ∀ e s, E e s → E' e s) : cameBackBy M A env E' e s := wpAny_mono h (fun _ _ => k _ _) k

theorem sim_each {i : Nat} {it : ME} {body : MSs} {y : Str} {x : Expr} {stmts : List Stmt} {py pos : Pos} (hh : A.handled = none) (hfr : A.frames = some (env :: l)) (ha : Apart ns) (ho : isOwn sc ns i y = true) (hn : notSet x = true)
    (hx : ∀ Γ : Env', Γ.length = ns.length → EOk cx A ((Amb.env cx env sc ns Γ).and (Amb.frames cx (env :: l))) Φ env Γ it x) (hb : SimS cx A (env :: l) env sc ns (execs stmts env) (execSs cx.T Φ body)) :
    SimS cx A (env :: l) env sc ns (exec (.For (.Name y py) x stmts [] pos) env) (execS cx.T Φ (.each i it body)) := by
  intro Γ H ρ s R e0 fr
  rw [ex_each]
  refine SimSK.to ?_
  refine SimSAt.bindK (K := fun xv Q E s => wpAny (model cx.prog cx.w) A (pyIter xv) (fun it s₂ => codeAny (model cx.prog cx.w) A (.forLoop (.Name y py) it stmts [] env) (fun r s' => match r with | .ok f => Q f s' | .error e => cameBackBy (model cx.prog cx.w) A env E e s') s₂) E s) e0 ((hx Γ e0.len).val H ρ s R ⟨e0, fr⟩) ?_ ?_ ?_
  · intro v xv H1 ρ1 s1 _ F1 R1 e1 vr
    refine SimSK.look fun pr hp => ?_
    obtain ⟨xs, src⟩ := pr
    refine SimSK.ofPost fun Q E nb p => ?_
    refine iter_start R1 vr hp fun o go it0 => ?_
    have F2 : Full ρ1 s1.heap ρ1 (s1.heap.push o) := Full.push _ _ _
    exact sim_loop (plainWalk hh xs s1.heap.objs.size src y py) hfr (bind_name ha ho) hb e1 ((Amb.frames cx (env :: l)).st _ _ _ _ fr F1) (fun b o e => ⟨o, R1.base b o e⟩) (fun q hq => by rw [List.mem_singleton.mp hq]; exact fresh_none _) F2.toS (R1.push o s1.toks) (e1.full F2) ⟨it0, R1.fresh_not (fresh_none _)⟩ nb p
  · intro xv Q E Q' E' s h k1 k2
    exact wpAny_mono h (fun it s₂ h2 => codeAny_mono h2 fun r s' hr => by
      cases r with
      | ok f => exact k1 _ _ hr
      | error e => exact cameBack_mono hr k2) k2
  · intro Q E h
    exact wpAny_For h (fun xv => foldedSet_of hn env xv)
end
end Mine

-- part MFor
namespace Mine
open PySem
section
variable {cx : Cx} {N : Names} {A : Around} {Φ : Funs} {l : List Env} {d : Nat} {env : Env} {sc : Scope} {ns : List (Option Str)} {Γ : Env'} {H : Hp} {ρ ρ' : Rho} {s : Shared}

noncomputable abbrev loopK (cx : Cx) (A : Around) (env : Env) (target : Expr) (stmts : List Stmt) (zv : Value) : (Flow → Shared → Prop) → (Value → Shared → Prop) → Shared → Prop := fun Q E s =>
  wpAny (model cx.prog cx.w) A (pyIter zv) (fun it s₂ => codeAny (model cx.prog cx.w) A (.forLoop target it stmts [] env) (fun r s' => match r with | .ok f => Q f s' | .error e => cameBackBy (model cx.prog cx.w) A env E e s') s₂) E s
noncomputable abbrev tit (a : Addr) : Obj := { cls := .type "tuple_iterator", data := .fields #[.ref a, .int 0 0] }
noncomputable abbrev zipT (h : Heap) (t1 t2 : Addr) : Heap := ((((h.push (tit t1)).push (tit t2)).push { cls := .type "tuple", data := .seq #[.ref h.objs.size, .ref (h.push (tit t1)).objs.size] }).push { cls := .type "tuple", data := .seq #[.none, .none] }).push
  { cls := .type "zip", data := .fields #[.none, .bool false, .bool false, .ref ((h.push (tit t1)).push (tit t2)).objs.size, .ref (((h.push (tit t1)).push (tit t2)).push { cls := .type "tuple", data := .seq #[.ref h.objs.size, .ref (h.push (tit t1)).objs.size] }).objs.size] }
/-! ## enumerate -/
structure EnOk (cx : Cx) (xs : List Val) (l1 : Nat) (e it : Addr) (i : Nat) (ρ : Rho) (h : Heap) : Prop where
  en : ∃ old, IsEnum h e it i old
  it1 : ∃ p, ρ[l1]? = some p ∧ h.IsListIter it p.1 i
  no : ¬ Owned ρ e ∧ ¬ Owned ρ it

/-! ## a list of pairs -/
end
end Mine

-- part MAssign
namespace Mine
open PySem
section
variable {cx : Cx} {N : Names} {A : Around} {Φ : Funs} {l : List Env} {d : Nat} {env : Env} {sc csc : Scope} {ns : List (Option Str)} {Γ : Env'} {H : Hp} {ρ ρ' : Rho} {s : Shared}

theorem swaps_not {m : ME} {x : Expr} {t : Option Expr} {ln : Nat} (h : ck N sc ns m x = true) (hm : ∀ a b c, m ≠ .comp a b c) : swapsWith x t ln env = pure false := by
  have z := ck_head h
  have hc : isComp m = false := by cases m <;> first | rfl | exact absurd rfl (hm _ _ _)
  rw [hc] at z
  cases x <;> first | rfl | cases z

theorem swaps_name {x : Expr} {y : Str} {py : Pos} {ln : Nat} : swapsWith x (some (.Name y py)) ln env = pure true ∨ swapsWith x (some (.Name y py)) ln env = pure false := by
  have : ∃ b, swapsWith x (some (.Name y py)) ln env = pure b := by cases x <;> exact ⟨_, rfl⟩
  obtain ⟨b, e⟩ := this
  cases b
  · exact .inr e
  · exact .inl e

theorem sim_assign_plain {i : Nat} {m : ME} {y : Str} {x : Expr} {py pos : Pos} (ha : Apart ns) (ho : isOwn sc ns i y = true) (hs : swapsWith x (some (.Name y py)) pos.line env = pure false)
    (hx : ∀ Γ : Env', Γ.length = ns.length → EOk cx A ((Amb.env cx env sc ns Γ).and (Amb.frames cx l)) Φ env Γ m x) :
    SimS cx A l env sc ns (exec (.Assign [.Name y py] x pos) env) (execS cx.T Φ (.assign i m)) := by
  intro Γ H ρ s R e0 fr
  rw [ex_assign]
  refine SimSK.to (SimSAt.bindK (K := fun v Q E s => wpAny (model cx.prog cx.w) A (storeName env y v) (fun _ => Q .next) E s) e0 ((hx Γ e0.len).val H ρ s R ⟨e0, fr⟩) (fun b v H1 ρ1 s1 _ F1 R1 e1 vr => sk_assign ha R1 e1 ho vr) (fun _ => monoK_store) fun Q E h => wpAny_Assign_Name h hs)

theorem sim_assign_comp (hh : A.handled = none) {i : Nat} {elt it : ME} {cond : MEo} {e x : Expr} {t y : Str} {ifs : List Expr} {tp py cp pos : Pos} (ha : Apart ns) (ho : isOwn sc ns i y = true) (hs : swapsWith (.ListComp e [⟨.Name t tp, x, ifs, 0⟩] csc cp) (some (.Name y py)) pos.line env = pure true) (hi : notSet x = true) (hc : compOk sc csc t = true)
    (pt : CParts cx A Φ l csc (inner csc ns ++ [some t]) cond elt ifs e) (hx : ∀ Γ : Env', Γ.length = ns.length → EOk cx A ((Amb.env cx env sc ns Γ).and (Amb.frames cx l)) Φ env Γ it x) :
    SimS cx A l env sc ns (exec (.Assign [.Name y py] (.ListComp e [⟨.Name t tp, x, ifs, 0⟩] csc cp) pos) env) (execS cx.T Φ (.assign i (.comp elt it cond))) := by
  obtain ⟨c1, c2, c3⟩ := compOk_parts hc
  intro Γ H ρ s R e0 fr
  rw [ex_assign, comp_eval]
  have assoc : ∀ (m : M Val) (f : Val → M Val) (g : Val → Hp → ResS) (H : Hp), bndS (m.bnd f) Γ g H = bndS m Γ (fun v => bndS (f v) Γ g) H := by
    intro m f g H
    unfold bndS M.bnd
    cases m H <;> rfl
  rw [assoc]
  refine SimSK.to (SimSAt.bindK (K := fun xv Q E s => wpAny (model cx.prog cx.w) A (pyIter xv) (fun it s₂ => wpAny (model cx.prog cx.w) A (newList []) (fun acc s₃ => wpAny (model cx.prog cx.w) A (newFunctionEnv csc env.globals (cloOf env csc.names []) [] env.qual none .none (some env)) (fun cenv s₄ =>
      codeAny (model cx.prog cx.w) A (.compStart (.ListComp e [⟨.Name t tp, x, ifs, 0⟩] csc cp) 0 it acc { cenv with scope := relabel csc env }) (compPost (model cx.prog cx.w) A E (some (assign (.Name y py) env)) (fun _ s' => Q .next s') acc cenv.locals) s₄) E s₃) E s₂) E s) e0 ((hx Γ e0.len).val H ρ s R ⟨e0, fr⟩) ?_ ?_ ?_)
  · intro v xv H1 ρ1 s1 _ F1 R1 e1 vr
    rcases compRest_cases (T := cx.T) (Φ := Φ) (cond := cond) (elt := elt) (Γ := Γ) (v := v) (H := H1) with w | ⟨xs, src, ys, H₂, w1, w2, w3, w4⟩
    · unfold bndS; rw [w]; trivial
    · unfold bndS; rw [w4]
      refine comp_block hh hc ha e1.len pt R1 e1 ((Amb.frames cx l).st _ _ _ _ fr F1) vr w1 w2 w3 fun D C ρ' s' F' R' v' m' n' hC => ?_
      obtain ⟨m, hm⟩ := m'
      have e' := e1.full F'
      have lvB : Live cx.h₀ s1.heap := fun b o e => ⟨o, R1.base b o e⟩
      show wpAny (model cx.prog cx.w) A (assign (.Name y py) env (.ref D)) _ _ _
      refine wpAny_assign_Name (store_var e'.len ha R' e' ho v' fun h2 tk2 F2 R2 e2 hq => ?_)
      obtain ⟨q, oq, hqd, hqs, gq⟩ := hq
      have live : ∀ {b : Addr}, (∃ o, s1.heap.get? b = some o) → b ≠ C := fun ⟨o, eo⟩ w => by rw [w, hC] at eo; cases eo
      have locL : env.locals ≠ C := live (by obtain ⟨m, o, es, ep, e, _⟩ := e1.st.loc; exact ⟨o, e⟩)
      have celL : ∀ z c, env.cells.lookup z = some c → c ≠ C := fun z c hc => live (by obtain ⟨⟨v, o, e, _⟩, _⟩ := e1.st.cells z c hc; exact ⟨o, e⟩)
      have qC : C ≠ q := by
        rcases hqd with ⟨_, rfl⟩ | ⟨_, w⟩
        · exact locL.symm
        · exact (celL y q w).symm
      have hm2 : h2.Ns C m := Heap_Ns_keep hm fun o eo => ⟨o, by rw [hqs.2 C qC]; exact eo, rfl⟩
      obtain ⟨oC, gC, nf, nx⟩ := nsO_not hm2
      refine ⟨m, hm2, fun h3 hs3 => ?_⟩
      have st : Step ρ' h2 ρ' h3 := Step.ext gC hs3.extBut nf nx
      have FF : FullS env ρ1 s1.heap ρ' h2 := F'.toS.trans F2
      refine ⟨rfl, ρ', ?_, R2.ext (tk := tk2) gC hs3.extBut nf nx n' (lvB.none hC), e2.but hs3.extBut locL.symm (fun z w => celL z C w rfl) st⟩
      refine ⟨FF.grow, fun b o eb n n1 n2 => ?_, fun b o eb => ?_⟩
      · obtain ⟨o', e', u⟩ := FF.keep b o eb n n1 n2
        exact ⟨o', hs3.extBut b o' (live ⟨o, eb⟩) e', u⟩
      · obtain ⟨o', e'⟩ := FF.live b o eb
        exact ⟨o', hs3.extBut b o' (live ⟨o, eb⟩) e'⟩
  · intro xv Q E Q' E' s h k1 k2
    exact wpAny_mono h (fun it s₂ h2 => wpAny_mono h2 (fun acc s₃ h3 => wpAny_mono h3 (fun cenv s₄ h4 => codeAny_mono h4 fun r s' hr => compPost_mono hr (fun _ s => k1 _ s) k2) k2) k2) k2
  · intro Q E h
    rw [exec_Assign_Name_used _ _ _ _ hs]
    refine wpAny_bind (wpAny_standAt (wpAny_bind ?_))
    show wpAny _ A (do let _ ← comprehension (.ListComp e [⟨.Name t tp, x, ifs, 0⟩] csc cp) csc env _ (newList []) false (eval x env) (some (assign (.Name y py) env))) _ _ s
    refine wpAny_bind (wpAny_mono (wpAny_comprehension_free (use := some (assign (.Name y py) env)) (Q := fun _ s' => Q .next s') (g := ⟨.Name t tp, x, ifs, 0⟩) (gs := []) rfl (fun xv => foldedSet_of hi env xv)
      (closureFor_eq fun p' hp' hf => e0.st.hasCell p'.1 (by rcases (c3 p' hp').2 hf with w | w; exact .inl w; exact .inr w)) c1 (fun p' hp' hl => by rw [(c3 p' hp').1, hl]) h) (fun _ s' hq => wpAny_pure (wpAny_pure hq)) fun _ _ e => e)

theorem sim_assign (G : Ground cx N A Φ l d) {i : Nat} {m : ME} {y : Str} {x : Expr} {py pos : Pos} (ha : Apart ns) (ho : isOwn sc ns i y = true) (hm : ck N sc ns m x = true) :
    SimS cx A l env sc ns (exec (.Assign [.Name y py] x pos) env) (execS cx.T Φ (.assign i m)) := by
  rcases swaps_name (env := env) (x := x) (y := y) (py := py) (ln := pos.line) with hs | hs
  · by_cases hc : ∃ a b c, m = .comp a b c
    · obtain ⟨elt, it, cond, rfl⟩ := hc
      obtain ⟨el, t, px, i', ifs, csc, cp, rfl, h1, h2, h3, h4, h5⟩ := inv_comp hm
      exact sim_assign_comp G.room.hh ha ho hs h2 h3 ⟨fun cenv Γ' hΓ' => econd G cond ifs cenv csc _ Γ' h5 (inner_inj ha (compOk_parts h3).2.1) hΓ', fun cenv Γ' hΓ' => (eok G elt el cenv csc _ Γ' h4 (inner_inj ha (compOk_parts h3).2.1) hΓ').val⟩
        fun Γ hΓ => eok G it i' env sc ns Γ h1 ha hΓ
    · have := swaps_not (env := env) (t := some (.Name y py)) (ln := pos.line) hm fun a b c w => hc ⟨a, b, c, w⟩
      exact sim_assign_plain ha ho this fun Γ hΓ => eok G m x env sc ns Γ hm ha hΓ
  · exact sim_assign_plain ha ho hs fun Γ hΓ => eok G m x env sc ns Γ hm ha hΓ
end
end Mine

-- part MStore
namespace Mine
open PySem
section
variable {cx : Cx} {N : Names} {A : Around} {Φ : Funs} {l : List Env} {d : Nat} {env : Env} {sc : Scope} {ns : List (Option Str)} {Γ : Env'} {H : Hp} {ρ : Rho} {s : Shared}
theorem setattr_ok {v m : Val} {n : Nat} {u : Unit} {H' : Hp} (h : setattrV v n m H = .ok u H') : ∃ i c fs, v = .loc i ∧ H[i]? = some (.inst c fs) ∧ H' = H.set i (.inst c (fput fs n m)) := by
  unfold setattrV at h
  split at h
  · split at h
    · cases h; exact ⟨_, _, _, rfl, by assumption, rfl⟩
    · cases h
  · cases h
theorem setattr_noexc {v m : Val} {n c : Nat} {H' : Hp} (h : setattrV v n m H = .exc c H') : False := by
  unfold setattrV at h
  split at h
  · split at h <;> cases h
  · cases h
theorem swaps_attr {x p : Expr} {y : Str} {q : Pos} {ln : Nat} : swapsWith x (some (.Attribute p y q)) ln env = pure false := by cases x <;> rfl
theorem sim_setattr (G : Ground cx N A Φ l d) {o e : ME} {n : Nat} {p x : Expr} {y : Str} {q pos : Pos} (ha : Apart ns) (hx : ck N sc ns e x = true) (hp : ck N sc ns o p = true) (hn : hasNo N.attrs y n = true) :
    SimS cx A l env sc ns (exec (.Assign [.Attribute p y q] x pos) env) (execS cx.T Φ (.setattr o n e)) := by
  intro Γ H ρ s R e0 fr
  rw [ex_setattr]
  refine SimSK.to (SimSAt.bindK (K := fun v Q E s => wpAny (model cx.prog cx.w) A (eval p env) (fun ov s₂ => wpAny (model cx.prog cx.w) A (setAttr ov y v) (fun _ => Q .next) E s₂) E s) e0 ((eok G e x env sc ns Γ hx ha e0.len).val H ρ s R ⟨e0, fr⟩) ?_ ?_ fun Q E h => plainObj_wpAny_Assign_Attribute h swaps_attr)
  · intro b v H1 ρ1 s1 _ F1 R1 e1 vr
    refine SimSAt.bindK (K := fun ov Q E s => wpAny (model cx.prog cx.w) A (setAttr ov y v) (fun _ => Q .next) E s) e1 ((eok G o p env sc ns Γ hp ha e1.len).val H1 ρ1 s1 R1 ⟨e1, fr.full F1⟩) ?_ ?_ (fun Q E h => h)
    · intro b2 ov H2 ρ2 s2 _ F2 R2 e2 vo
      have vo' : VR cx ρ2 s2.heap b2 ov := vo
      unfold bndS
      cases hr : setattrV b2 n b H2 with
      | bad => trivial
      | exc c H3 => exact (setattr_noexc hr).elim
      | ok u H3 =>
        obtain ⟨i, c, fs, rfl, hi, rfl⟩ := setattr_ok hr
        obtain ⟨p1, hp1, rfl⟩ := vo'.loc_inv
        exact wp_setattr G.base.cls R2 hi hp1 (G.base.cls.attr y n (hasNo_eq hn)) (VR.step F2.step vr) fun s' F R' => ⟨rfl, ρ2, F.toS, R', e2.full F⟩
    · exact fun _ Q E Q' E' s h k1 k2 => wpAny_mono h (fun _ _ => k1 _ _) k2
  · exact fun _ Q E Q' E' s h k1 k2 => wpAny_mono h (fun _ _ h' => wpAny_mono h' (fun _ _ => k1 _ _) k2) k2
/-! ## while -/
theorem sim_while (G : Ground cx N A Φ (env :: l) d) {c : ME} {b : MSs} {x : Expr} {ts : List Stmt} {pos : Pos} (ha : Apart ns) (hc : ck N sc ns c x = true) (hb : SimS cx A (env :: l) env sc ns (execs ts env) (execSs cx.T Φ b)) :
    SimS cx A (env :: l) env sc ns (exec (.While x ts [] pos) env) (execS cx.T Φ (.loop c b)) := by
  intro Γ₀ H₀ ρ₁ s₁ R₀ e₁ fr
  rw [ex_loop]
  refine SimSK.to (SimSK.ofPost fun Q E nb p => wpAny_While ?_)
  generalize hres : whileL (fun Γ => (evalE cx.T Φ c Γ).bnd truth) (execSs cx.T Φ b) turns Γ₀ H₀ = res at nb p
  refine codeAny_whileLoop (fun n s => ∃ Γ H ρ, FullS env ρ₁ s₁.heap ρ s.heap ∧ Rel cx H ρ s ∧ EnvOk cx env sc ns Γ ρ s.heap ∧ whileL (fun Γ => (evalE cx.T Φ c Γ).bnd truth) (execSs cx.T Φ b) n Γ H = res) ?_ turns ⟨Γ₀, H₀, ρ₁, FullS.refl _ _ _, R₀, e₁, hres⟩
  rintro n s ⟨Γ, H, ρ, F, R, e0, hr⟩
  cases n with
  | zero => exact absurd hr.symm nb
  | succ n =>
    unfold whileL at hr
    have fr0 : FramesOk cx (env :: l) ρ s.heap := fr.stmt F e₁.st e0.st
    have C := (eok G c x env sc ns Γ hc ha e0.len).tru H ρ s R ⟨e0, fr0⟩
    cases hcd : ((evalE cx.T Φ c Γ).bnd truth) H with
    | bad => rw [hcd] at hr; exact absurd hr.symm nb
    | exc k H1 => rw [hcd] at hr; exact absurd hr.symm nb
    | ok t H1 =>
      rw [hcd] at hr C
      refine wpAny_mono C (fun t' s2 ⟨ρ2, F2, R2, ht⟩ => ?_) fun _ _ q => q.elim
      have ht' : t' = t := ht
      subst ht'
      have e2 := e0.full F2
      have F12 := F.trans F2.toS
      cases t' with
      | false =>
        dsimp only at hr
        rw [if_neg (by simp)]
        subst hr
        exact wpAny_execs_nil (p s2 ρ2 F12 R2 e2)
      | true =>
        dsimp only at hr
        rw [if_pos rfl]
        have B := hb Γ H1 ρ2 s2 R2 e2 (fr0.full F2)
        cases hbd : execSs cx.T Φ b Γ H1 with
        | bad => rw [hbd] at hr; exact absurd hr.symm nb
        | exc k Γ3 H3 => rw [hbd] at hr; exact absurd hr.symm nb
        | next Γ3 H3 =>
          rw [hbd] at hr B
          refine wpAny_mono B (fun f s3 q => ?_) fun _ _ q => q.elim
          obtain ⟨rfl, ρ3, F3, R3, e3⟩ := q
          exact ⟨n, Nat.lt_succ_self n, Γ3, H3, ρ3, F12.trans F3, R3, e3, hr⟩
        | ret v H3 =>
          rw [hbd] at hr B
          subst hr
          refine wpAny_mono B (fun f s3 q => ?_) fun _ _ q => q.elim
          obtain ⟨v', ρ3, rfl, F3, R3, vr3⟩ := q
          exact p s3 ρ3 v' (F12.trans F3) R3 vr3
end
end Mine

-- part MItem
namespace Mine
open PySem
section
variable {cx : Cx} {N : Names} {A : Around} {Φ : Funs} {l : List Env} {d : Nat} {env : Env} {sc : Scope} {ns : List (Option Str)} {Γ : Env'} {H : Hp} {ρ : Rho} {s : Shared}
set_option maxRecDepth 100000 in
/- an item of a list is stored; the object is known to the letter -/
theorem wp_setItem {a : Addr} {vs : List Value} {n : Nat} {k : Int} {t : Tok} {v : Value} {Q : Unit → Shared → Prop} {E : Value → Shared → Prop} (g : s.heap.get? a = some (listO vs n)) (h0 : 0 ≤ k) (hk : k < vs.length) (hf : k < 2 ^ 63)
    (hQ : Q () { s with heap := s.heap.update a (Obj.mapSeq (·.setIfInBounds k.toNat v)) }) : wpAny (model cx.prog cx.w) A (setItem (.ref a) (.int k t) v) Q E s := by
  have hl : s.heap.IsList a vs.toArray := ⟨_, g, rfl, n, rfl⟩
  unfold setItem
  try with_reducible refine wpAny_holding ?_
  first | refine wpAny_bind (wpAny_pure ?_) | skip
  refine wpAny_bind (wpAny_sequenceKey hl.typeIs (by decide) ?_)
  refine wpAny_bind (wpAny_callSpecial?_slot (name := Str.ofString "__setitem__") hl.typeIs slot_list_setitem (wpAny_call_entry slot_list_setitem hl.typeIs entry_list_setitem ?_ (args_list_setitem _ _ _)))
  show wpAny _ _ (Builtin.List.listSubscript? (.int k t) >>= _) _ _ s
  refine wpAny_bind (wpAny_listSubscript_int (fitsIndex_of h0 hf) ?_)
  clear hf
  obtain ⟨j, rfl⟩ := Int.eq_ofNat_of_zero_le h0
  have hj : j < vs.toArray.size := by simp only [List.size_toArray]; omega
  have hx' : vs.toArray[j]? = some vs.toArray[j] := Array.getElem?_eq_getElem hj
  show wpAny _ _ ((seqItemAt a j >>= fun r => pure (r.map (j, ·))) >>= _) _ _ s
  refine wpAny_bind (wpAny_bind (wpAny_seqItemAt g rfl (wpAny_pure ?_)))
  rw [hx']
  show wpAny _ _ (setSeqItemAt a j v >>= _) _ _ s
  refine wpAny_bind (wpAny_setSeqItemAt g rfl ?_)
  first
    | exact wpAny_bind (wpAny_pure (wpAny_pure ⟨.none, rfl, wpAny_pure hQ⟩))
    | exact wpAny_pure ⟨.none, rfl, wpAny_pure hQ⟩
theorem VRs.setArr {xs : List Val} {vs : List Value} {m : Val} {v : Value} {h : Heap} (r : VRs cx ρ h xs vs) (k : Nat) (a : VR cx ρ h m v) : VRs cx ρ h (xs.set k m) (vs.toArray.setIfInBounds k v).toList := by
  have : (vs.toArray.setIfInBounds k v).toList = vs.set k v := by simp
  rw [this]; exact r.set k a
set_option tactic.hygienic true in
theorem setitem_ok {o i m : Val} {u : Unit} {H' : Hp} (h : setitemV o i m H = .ok u H') : ∃ l, o = .loc l ∧ ((∃ xs k, H[l]? = some (.list xs) ∧ i = .int k ∧ 0 ≤ k ∧ k < xs.length ∧ H' = H.set l (.list (xs.set k.toNat m))) ∨
    ∃ es k, H[l]? = some (.dict es) ∧ keyOf i = some k ∧ es.length < lid ∧ H' = H.set l (.dict (dput es k m))) := by
  unfold setitemV at h
  split at h
  · rename_i l
    split at h
    · rename_i xs hl
      split at h
      · rename_i k
        by_cases q : 0 ≤ k ∧ k < xs.length
        · rw [if_pos q] at h; cases h; exact ⟨l, rfl, .inl ⟨xs, k, hl, rfl, q.1, q.2, rfl⟩⟩
        · rw [if_neg q] at h; cases h
      · cases h
    · rename_i es hl
      split at h
      · rename_i k hk
        by_cases q : es.length < lid
        · rw [if_pos q] at h; cases h; exact ⟨l, rfl, .inr ⟨es, k, hl, hk, q, rfl⟩⟩
        · rw [if_neg q] at h; cases h
      · cases h
    · cases h
  · cases h
theorem setitem_noexc {o i m : Val} {c : Nat} {H' : Hp} (h : setitemV o i m H = .exc c H') : False := by
  unfold setitemV at h
  split at h
  · split at h
    · split at h
      · split at h <;> cases h
      · cases h
    · split at h
      · split at h <;> cases h
      · cases h
    · cases h
  · cases h
/- an entry of a dict is stored -/
theorem wp_setDict (hu : A.units + 100 < cLine) (R : Rel cx H ρ s) {l : Nat} {p : Addr × Addr} {es : List (Key × Val)} {i m : Val} {k : Key} {iv v : Value} {Q : Unit → Shared → Prop} {E : Value → Shared → Prop} (hp : ρ[l]? = some p) (hl : H[l]? = some (.dict es)) (hk : keyOf i = some k) (q : es.length < lid)
    (xi : VR cx ρ s.heap i iv) (xm : VR cx ρ s.heap m v) (hQ : ∀ h' tk, Full ρ s.heap ρ h' → Rel cx (H.set l (.dict (dput es k m))) ρ { s with heap := h', toks := tk } → Q () { s with heap := h', toks := tk }) : wpAny (model cx.prog cx.w) A (setItem (.ref p.1) iv v) Q E s := by
  obtain ⟨xs, hpp, D, rr, z⟩ := R.dictAt hl hp
  obtain ⟨bb, rfl, hb, no⟩ := key_is xi hk
  refine wpAny_setItem_heap (knd := cellKind cx) (tupleKind_room_in1 (by omega)) hb D (fun h' hm hs => ?_) (by rw [rr.length]; exact z)
  obtain ⟨_, _, _, _, _, _, _, ks, nd⟩ := D
  rw [sizeLine_lid] at q
  obtain ⟨F, R'⟩ := dict_set (tk := s.toks + (cellKind cx).draws [k.1, k.2]) R hp hpp hm hs (stored_keys ks hb) (rr.put nd xm no) (Nat.le_trans (dput_length es k m) q)
  exact hQ h' _ F R'
theorem swaps_item {x p i : Expr} {q : Pos} {ln : Nat} : swapsWith x (some (.Subscript p i q)) ln env = pure false := by cases x <;> rfl
theorem sim_setitem (G : Ground cx N A Φ l d) {o i e : ME} {p j x : Expr} {q pos : Pos} (ha : Apart ns) (hx : ck N sc ns e x = true) (hp : ck N sc ns o p = true) (hi : ck N sc ns i j = true) :
    SimS cx A l env sc ns (exec (.Assign [.Subscript p j q] x pos) env) (execS cx.T Φ (.setitem o i e)) := by
  intro Γ H ρ s R e0 fr
  rw [ex_setitem]
  refine SimSK.to (SimSAt.bindK (K := fun v Q E s => wpAny (model cx.prog cx.w) A (eval p env) (fun ov s₂ => wpAny (model cx.prog cx.w) A (eval j env) (fun iv s₃ => wpAny (model cx.prog cx.w) A (setItem ov iv v) (fun _ => Q .next) E s₃) E s₂) E s) e0 ((eok G e x env sc ns Γ hx ha e0.len).val H ρ s R ⟨e0, fr⟩) ?_ ?_ fun Q E h => wpAny_Assign_Subscript h swaps_item)
  · intro b v H1 ρ1 s1 _ F1 R1 e1 vr
    refine SimSAt.bindK (K := fun ov Q E s => wpAny (model cx.prog cx.w) A (eval j env) (fun iv s₃ => wpAny (model cx.prog cx.w) A (setItem ov iv v) (fun _ => Q .next) E s₃) E s) e1 ((eok G o p env sc ns Γ hp ha e1.len).val H1 ρ1 s1 R1 ⟨e1, fr.full F1⟩) ?_ ?_ (fun Q E h => h)
    · intro b2 ov H2 ρ2 s2 _ F2 R2 e2 vo
      refine SimSAt.bindK (K := fun iv Q E s => wpAny (model cx.prog cx.w) A (setItem ov iv v) (fun _ => Q .next) E s) e2 ((eok G i j env sc ns Γ hi ha e2.len).val H2 ρ2 s2 R2 ⟨e2, (fr.full F1).full F2⟩) ?_ ?_ (fun Q E h => h)
      · intro b3 iv H3 ρ3 s3 _ F3 R3 e3 vi
        have vo' : VR cx ρ3 s3.heap b2 ov := VR.step F3.step vo
        have vi' : VR cx ρ3 s3.heap b3 iv := vi
        have vr' : VR cx ρ3 s3.heap b v := VR.step F3.step (VR.step F2.step vr)
        unfold bndS
        cases hr : setitemV b2 b3 b H3 with
        | bad => trivial
        | exc c H4 => exact (setitem_noexc hr).elim
        | ok u H4 =>
          obtain ⟨a, rfl, hs⟩ := setitem_ok hr
          obtain ⟨p1, hp1, rfl⟩ := vo'.loc_inv
          rcases hs with ⟨xs, k, hl, rfl, k0, k1, rfl⟩ | ⟨es, k, hl, hk, q, rfl⟩
          · obtain ⟨t, rfl⟩ := vi'.int_inv
            obtain ⟨vs, n, hpp, g, rr, z⟩ := R3.listAt hl hp1
            have z' := z
            rw [sizeLine_eq] at z'
            refine wp_setItem g k0 (by rw [← rr.length]; exact k1) (by omega) ?_
            obtain ⟨ρ', F, R', _⟩ := simAt_seq (b := .none) (v := .none) (ys := xs.set k.toNat b) R3 hp1 hpp g (fun w => w.setIfInBounds k.toNat v) (rr.setArr k.toNat vr') (by rw [List.length_set]; exact z) fun _ _ => .none
            exact ⟨rfl, ρ', F.toS, R', e3.full F⟩
          · exact wp_setDict G.u R3 hp1 hl hk q vi' vr' fun h' tk F R' => ⟨rfl, ρ3, F.toS, R', e3.full F⟩
      · exact fun _ Q E Q' E' s h k1 k2 => wpAny_mono h (fun _ _ => k1 _ _) k2
    · exact fun _ Q E Q' E' s h k1 k2 => wpAny_mono h (fun _ _ h' => wpAny_mono h' (fun _ _ => k1 _ _) k2) k2
  · exact fun _ Q E Q' E' s h k1 k2 => wpAny_mono h (fun _ _ h' => wpAny_mono h' (fun _ _ h2 => wpAny_mono h2 (fun _ _ => k1 _ _) k2) k2) k2
end
end Mine

-- part MBody
namespace Mine
open PySem
section
variable {cx : Cx} {N : Names} {A : Around} {Φ : Funs} {l : List Env} {d : Nat} {env : Env} {sc : Scope} {ns : List (Option Str)} {Γ : Env'} {H : Hp} {ρ ρ' : Rho} {s : Shared}

theorem sim_expr (G : Ground cx N A Φ l d) {m : ME} {x : Expr} {pos : Pos} (ha : Apart ns) (hm : ck N sc ns m x = true) (hc : notComp m = true) : SimS cx A l env sc ns (exec (.Expr x pos) env) (execS cx.T Φ (.expr m)) := by
  intro Γ H ρ s R e0 fr
  rw [ex_expr]
  have nc : ∀ a b c, m ≠ .comp a b c := fun a b c q => by subst q; cases hc
  refine SimSK.to (SimSAt.bindK (K := fun _ Q _ s => Q .next s) e0 ((eok G m x env sc ns Γ hm ha e0.len).val H ρ s R ⟨e0, fr⟩) (fun b v H1 ρ1 s1 _ F1 R1 e1 vr => ⟨rfl, ρ1, FullS.refl _ _ _, R1, e1⟩) (fun _ Q E Q' E' s h k1 _ => k1 _ _ h) fun Q E h => ?_)
  refine wpAny_Expr_any h ?_ (swaps_not hm nc)
  unfold interactive
  rw [e0.st.fn]; rfl
theorem sim_ret (G : Ground cx N A Φ l d) {m : MEo} {x : Option Expr} {pos : Pos} (ha : Apart ns) (hm : ckO N sc ns m x = true) : SimS cx A l env sc ns (exec (.Return x pos) env) (execS cx.T Φ (.ret m)) := by
  intro Γ H ρ s R e0 fr
  rw [ex_ret]
  match m, x, hm with
  | .none, none, _ =>
    exact wpAny_Return_none ⟨_, ρ, rfl, FullS.refl _ _ _, R, .none⟩
  | .some e, some x, hm =>
    exact SimSK.to (SimSAt.bindK (K := fun v Q _ s => Q (.ret v) s) e0 ((eok G e x env sc ns Γ hm ha e0.len).val H ρ s R ⟨e0, fr⟩) (fun b v H1 ρ1 s1 _ F1 R1 e1 vr => ⟨v, ρ1, rfl, FullS.refl _ _ _, R1, vr⟩) (fun _ Q E Q' E' s h k1 _ => k1 _ _ h) fun Q E h => wpAny_Return_some h)
  | .none, some _, h => cases (show false = true from h)
  | .some _, none, h => cases (show false = true from h)
theorem sim_ite (G : Ground cx N A Φ l d) {c : ME} {t f : MSs} {x : Expr} {ts fs : List Stmt} {pos : Pos} (ha : Apart ns) (hm : ck N sc ns c x = true) (ht : SimS cx A l env sc ns (execs ts env) (execSs cx.T Φ t)) (hf : SimS cx A l env sc ns (execs fs env) (execSs cx.T Φ f)) :
    SimS cx A l env sc ns (exec (.If x ts fs pos) env) (execS cx.T Φ (.ite c t f)) := by
  intro Γ H ρ s R e0 fr
  rw [ex_ite]
  refine SimSK.to (SimSAt.bindK (K := fun b Q E s => if b = true then wpAny (model cx.prog cx.w) A (execs ts env) Q E s else wpAny (model cx.prog cx.w) A (execs fs env) Q E s) e0 ((eok G c x env sc ns Γ hm ha e0.len).tru H ρ s R ⟨e0, fr⟩) ?_ ?_ fun Q E h => wpAny_If h)
  · intro b b' H1 ρ1 s1 _ F1 R1 e1 hb
    have hb' : b' = b := hb
    subst hb'
    cases b' with
    | true => exact (SimSK.of (ht Γ H1 ρ1 s1 R1 e1 (fr.full F1))).mono fun Q E h => h
    | false => exact (SimSK.of (hf Γ H1 ρ1 s1 R1 e1 (fr.full F1))).mono fun Q E h => by simpa using h
  · intro b Q E Q' E' s h k1 k2
    cases b
    · simp only [Bool.false_eq_true, if_false] at h ⊢; exact wpAny_mono h k1 k2
    · simp only [if_true] at h ⊢; exact wpAny_mono h k1 k2

set_option maxHeartbeats 4000000 in
mutual
theorem sok (G : Ground cx N A Φ (env :: l) d) (ha : Apart ns) (hef : env.frame = some env.locals) : ∀ (m : MS) (st : Stmt), ckS N sc ns m st = true → SimS cx A (env :: l) env sc ns (exec st env) (execS cx.T Φ m)
  | .expr e, st, h => by
    obtain ⟨t, h⟩ := seen_of h
    rw [t.2]
    exact sim_expr G ha (an1 h) (an2 h)
  | .assign i e, st, h => by
    obtain ⟨t, h⟩ := seen_of h
    rw [t.2]
    exact sim_assign G ha (an1 h) (an2 h)
  | .setattr o n e, st, h => by
    obtain ⟨t, h⟩ := seen_of h
    rw [t.2]
    exact sim_setattr G ha (an1 (an1 h)) (an2 (an1 h)) (an2 h)
  | .setitem o i e, st, h => by
    obtain ⟨t, h⟩ := seen_of h
    rw [t.2]
    exact sim_setitem G ha (an1 (an1 h)) (an2 (an1 h)) (an2 h)
  | .ret e, st, h => by
    obtain ⟨t, h⟩ := seen_of h
    rw [t.2]
    exact sim_ret G ha h
  | .ite c t f, st, h => by
    obtain ⟨p, h⟩ := seen_of h
    rw [p.2]
    exact sim_ite G ha (an1 (an1 h)) (soks G ha hef t p.1.2.1 (an2 (an1 h))) (soks G ha hef f p.1.2.2.1 (an2 h))
  | .loop c b, st, h => by
    obtain ⟨t, h⟩ := seen_of h
    rw [t.2]
    exact sim_while G ha (an1 h) (soks G ha hef b t.1.2.1 (an2 h))
  | .each i it b, st, h => by
    obtain ⟨t, h⟩ := seen_of h
    rw [t.2]
    exact sim_each G.room.hh G.frames ha (an1 (an1 (an1 h))) (an2 (an1 h)) (fun Γ hΓ => eok G it t.1.2.2.1 env sc ns Γ (an2 (an1 (an1 h))) ha hΓ) (soks G ha hef b t.1.2.2.2.1 (an2 h))
  | .raise c msg, st, h => fun Γ H ρ s R e0 fr => trivial
theorem soks (G : Ground cx N A Φ (env :: l) d) (ha : Apart ns) (hef : env.frame = some env.locals) : ∀ (m : MSs) (sts : List Stmt), ckSs N sc ns m sts = true → SimS cx A (env :: l) env sc ns (execs sts env) (execSs cx.T Φ m)
  | .nil, [], _ => by
    intro Γ H ρ s R e0 fr
    exact wpAny_execs_nil ⟨rfl, ρ, FullS.refl _ _ _, R, e0⟩
  | .nil, _ :: _, h => by cases (show false = true from h)
  | .cons _ _, [], h => by cases (show false = true from h)
  | .cons m ms, st :: sts, h => by
    have h := And.intro (an1 h) (an2 h)
    intro Γ H ρ s R e0 fr
    rw [exs_cons]
    exact sim_then e0 fr (sok G ha hef m st h.1 Γ H ρ s R e0 fr) (soks G ha hef ms sts h.2)
end

/- a def's body -/
theorem body_ok {d : Nat} (B : Base cx N) (defs : ∀ (f : Nat) (a : Addr), cx.fns[f]? = some a → ∃ g, cx.T.funs[f]? = some g) {Φ : Funs} (hΦ : FunsOk cx Φ d) : BodyOk cx N Φ d :=
  fun body stmts env sc ns A l hck ha room hfr hef => soks (Φ := Φ) ⟨B, room, hfr, hΦ, defs⟩ ha hef body stmts hck
theorem funs_ok (B : Base cx N) (defs : ∀ (f : Nat) (a : Addr), cx.fns[f]? = some a → ∃ g, cx.T.funs[f]? = some g) : ∀ d, FunsOk cx (callF cx.T d) d
  | 0 => fun k a args vals A l _ _ _ H ρ s R p => trivial
  | d + 1 => FunsOk.step B (body_ok B defs (funs_ok B defs d))
end
end Mine

-- part MHead
namespace Mine
open PySem PySem.W.X

noncomputable def isNoneV : Value → Bool
  | .none => true
  | _ => false
noncomputable def sameB : Value → Value → Bool
  | .builtin a, .builtin b => decide (a = b)
  | .type a, .type b => decide (a = b)
  | .ref a, .ref b => Nat.beq a b
  | _, _ => false
theorem sameB_eq {a b : Value} (h : sameB a b = true) : a = b := by
  unfold sameB at h
  split at h
  · rw [of_decide_eq_true h]
  · rw [of_decide_eq_true h]
  · rw [Nat.eq_of_beq_eq_true h]
  · cases h
noncomputable def litOk : Val → Value → Bool
  | .none, .none => true
  | .bool a, .bool b => a == b
  | .int a, .int b _ => decide (a = b)
  | .str a, .str b _ => decide (a = b) && decide (a.length ≤ 1000)
  | _, _ => false
theorem litOk_vr {cx : Cx} {ρ : Rho} {h : Heap} {v : Val} {w : Value} (x : litOk v w = true) : VR cx ρ h v w := by
  unfold litOk at x
  split at x
  · exact .none
  · rw [eq_of_beq x]; exact .bool _
  · rw [of_decide_eq_true x]; exact .int _ _
  · rw [Bool.and_eq_true] at x
    rw [← of_decide_eq_true x.1]
    have := of_decide_eq_true x.2
    exact .str _ _ (by rw [sizeLine_eq]; omega)
  · cases x
noncomputable def codeOk (t : Addr → Option Obj) (c : Value) (q : Str) : Bool := match c with
  | .ref a => (match t a with
    | some o => (match o.data with
      | .fields vs => (match (vs[1]? : Option Value) with
        | some (.str x _) => decide (x = q)
        | _ => false)
      | _ => false)
    | none => false)
  | _ => false
noncomputable def fnAt (N : Names) (t : Addr → Option Obj) (a : Nat) (f : MFun) (ns : List Str) : Bool := match t a with
  | some o => (match o.data with
    | .func fd => (match fd.body with
      | .stmts body => ckF N f ns fd.params body fd.scope && fd.closure.isEmpty && Nat.beq fd.globals mainGlobals && Nat.beq fd.builtins builtinsNs && isNoneV fd.defaults && isNoneV fd.kwdefaults && codeOk t fd.code fd.qualname && sameB o.cls (.type "function")
      | _ => false)
    | _ => false)
  | none => false
noncomputable def fnsAt (N : Names) (t : Addr → Option Obj) : List Addr → List MFun → List (List Str) → Bool
  | [], [], [] => true
  | a :: as, f :: fs, ns :: nss => fnAt N t a f ns && fnsAt N t as fs nss
  | _, _, _ => false
noncomputable def topOk (es : Array DictEntry) (N : Names) (T : Tab) (cls : List Value) (fns : List Addr) : Bool :=
  (N.funs.all fun p => match fns[p.2]?, nsFind es p.1 with
    | some a, some v => sameB (.ref a) v
    | _, _ => false) &&
  (N.globs.all fun p => match T.globs[p.2]?, nsFind es p.1 with
    | some m, some v => litOk m v
    | _, _ => false) &&
  (N.clss.all fun p => match cls[p.2]?, nsFind es p.1 with
    | some c, some v => sameB c v
    | some c, none => (match bootBuiltins p.1 with
      | some v => sameB c v && !decide (p.1 = ("__name__" : Str))
      | none => false)
    | _, _ => false) &&
  (bltTab.all fun p => (nsFind es p.1).isNone && !decide (p.1 = ("__name__" : Str)) && (match bootBuiltins p.1 with
    | some v => sameB p.2 v
    | none => false))
/-! ## classes -/
noncomputable def isFn (t : Addr → Option Obj) (a : Nat) : Bool := match t a with
  | some o => sameB o.cls (.type "function") && (match o.data with
    | .func _ => true
    | _ => false)
  | none => false
noncomputable def strKey (v : Value) : Bool := match v with
  | .str _ _ => true
  | _ => false
noncomputable def newSlot (o : Option Value) : Bool := match o with
  | some v => sameB v (.builtin "object.__new__")
  | none => false
noncomputable def noObj (y : Str) : Bool := match fastLookup "object" y with
  | some none => true
  | _ => false
noncomputable def anyObj (y : Str) : Bool := (fastLookup "object" y).isSome
noncomputable def nsCls (t : Addr → Option Obj) (N : Names) (T : Tab) (attrs : List Str) (fns : List Addr) (c : Nat) (es : Array DictEntry) : Bool :=
  (es.toList.all fun e => strKey e.key) && (nsFind es "__getattribute__").isNone && (nsFind es "__getattr__").isNone && (nsFind es "__setattr__").isNone &&
  (attrs.all fun y => (nsFind es y).isNone && noObj y) &&
  (N.meths.all fun p => match T.meth c p.2 with
    | none => true
    | some k => (match fns[k]?, nsFind es p.1 with
      | some fa, some v => sameB (.ref fa) v && isFn t fa && !(attrs.contains p.1) && anyObj p.1
      | _, _ => false))
noncomputable def slots6 (l : List (Option Value)) : Option { p : Option Value × Option Value × Option Value × Option Value × Option Value × Option Value // l = [p.1, p.2.1, p.2.2.1, p.2.2.2.1, p.2.2.2.2.1, p.2.2.2.2.2] } := match l with
  | [a, b, c, d, e, f] => some ⟨(a, b, c, d, e, f), rfl⟩
  | _ => none
noncomputable def clsAt (t : Addr → Option Obj) (N : Names) (T : Tab) (attrs : List Str) (fns : List Addr) (c : Nat) (v : Value) : Bool := match v with
  | .ref C => (match t C with
    | some o => (match o.data with
      | .cls cd => sameB o.cls (.type "type") && decide (cd.mro = [.ref C, .type "object"]) && cd.hasDict && !cd.abstract && !cd.hasDel && (match slots6 o.slots.toList with
        | some ⟨p, _⟩ => newSlot p.2.2.2.2.1
        | none => false) && (match t cd.ns with
        | some on => (match on.data with
          | .dict es _ => nsCls t N T attrs fns c es
          | _ => false)
        | none => false)
      | _ => false)
    | none => false)
  | _ => false
noncomputable def clssAt (t : Addr → Option Obj) (N : Names) (T : Tab) (attrs : List Str) (fns : List Addr) : Nat → List Value → Bool
  | _, [] => true
  | c, v :: vs => ((T.meth c 0).isNone || clsAt t N T attrs fns c v) && clssAt t N T attrs fns (c + 1) vs
noncomputable def attrsOk (N : Names) (attrs : List Str) : Bool :=
  (N.attrs.all fun p => match attrs[p.2]? with
    | some y => decide (y = p.1)
    | none => false) && nodupS (attrs.map some) && decide (attrs.length ≤ 1000) && hasNo N.meths "__init__" 0
noncomputable def headOk (t : Addr → Option Obj) (N : Names) (T : Tab) (cls : List Value) (fns : List Addr) (nss : List (List Str)) : Bool :=
  (match t mainGlobals with
   | some o => (match o.data with
     | .dict es _ => topOk es N T cls fns
     | _ => false)
   | none => false) && fnsAt N t fns T.funs nss

/- what a heap holds -/
noncomputable def Has (h : Heap) (t : Addr → Option Obj) : Prop := ∀ a o, t a = some o → h.get? a = some o
theorem kt_get {h : Heap} {t : Addr → Option Obj} (Z : Has h t) {a : Nat} {o : Obj} (e : t a = some o) : h.get? a = some o := Z a o e

set_option tactic.hygienic true in
theorem codeOk_rec {h : Heap} {t : Addr → Option Obj} (Z : Has h t) {c : Value} {q : Str} (x : codeOk t c q = true) : h.CodeRec c q := by
  unfold codeOk at x
  split at x
  · split at x
    · rename_i o e
      split at x
      · rename_i vs hd
        split at x
        · rename_i y tk hv
          rw [← of_decide_eq_true x]
          exact ⟨_, o, vs, tk, rfl, kt_get Z e, hd, hv⟩
        · cases x
      · cases x
    · cases x
  · cases x

set_option tactic.hygienic true in
theorem fnAt_ok {cx : Cx} {N : Names} {t : Addr → Option Obj} (Z : Has cx.h₀ t) {a : Nat} {f : MFun} {ns : List Str} (x : fnAt N t a f ns = true) : FnOk cx N a f := by
  unfold fnAt at x
  split at x
  · rename_i o e
    split at x
    · rename_i fd hd
      split at x
      · rename_i body hb
        simp only [Bool.and_eq_true] at x
        obtain ⟨⟨⟨⟨⟨⟨⟨x1, x2⟩, x3⟩, x4⟩, x5⟩, x6⟩, x7⟩, x8⟩ := x
        have none_of : ∀ {v : Value}, isNoneV v = true → v = .none := fun {v} h => by cases v <;> first | rfl | cases h
        exact ⟨o, fd, body, ns, kt_get Z e, sameB_eq x8, hd, codeOk_rec Z x7, hb, List.isEmpty_iff.mp x2, Nat.eq_of_beq_eq_true x3, Nat.eq_of_beq_eq_true x4, none_of x5, none_of x6, x1⟩
      · cases x
    · cases x
  · cases x
theorem fnsAt_get {N : Names} {t : Addr → Option Obj} : ∀ {fns : List Addr} {fs : List MFun} {nss : List (List Str)}, fnsAt N t fns fs nss = true → fns.length = fs.length ∧ ∀ (k : Nat) (a : Addr) (f : MFun), fns[k]? = some a → fs[k]? = some f → ∃ ns, fnAt N t a f ns = true
  | [], [], [], _ => ⟨rfl, fun k a f h _ => by simp at h⟩
  | a :: as, f :: fs, ns :: nss, h => by
    have h := And.intro (an1 h) (an2 h)
    obtain ⟨l, r⟩ := fnsAt_get h.2
    refine ⟨by simp [l], fun k b g h1 h2 => ?_⟩
    cases k with
    | zero => simp at h1 h2; subst h1 h2; exact ⟨ns, h.1⟩
    | succ k => exact r k b g (by simpa using h1) (by simpa using h2)
  | [], [], _ :: _, h => by cases (show false = true from h)
  | [], _ :: _, _, h => by cases (show false = true from h)
  | _ :: _, [], _, h => by cases (show false = true from h)
  | _ :: _, _ :: _, [], h => by cases (show false = true from h)

set_option tactic.hygienic true in
theorem noObj_eq {y : Str} (h : noObj y = true) : typeLookup (.type "object") y = pure none := by
  unfold noObj at h
  rw [typeLookup_type, builtinLookup_eq_fast]
  split at h
  · rename_i e; rw [e]
  · cases h
theorem anyObj_eq {y : Str} (h : anyObj y = true) : ∃ r, typeLookup (.type "object") y = pure r := by
  obtain ⟨r, e⟩ := Option.isSome_iff_exists.mp h
  exact ⟨r, by rw [typeLookup_type, builtinLookup_eq_fast, e]⟩
set_option tactic.hygienic true in
theorem isFn_eq {h : Heap} {t : Addr → Option Obj} (Z : Has h t) {a : Nat} (x : isFn t a = true) : ∃ o fd, h.get? a = some o ∧ o.cls = .type "function" ∧ o.data = .func fd := by
  unfold isFn at x
  split at x
  · rename_i o e
    rw [Bool.and_eq_true] at x
    obtain ⟨x1, x2⟩ := x
    split at x2
    · rename_i fd hd
      exact ⟨o, fd, kt_get Z e, sameB_eq x1, hd⟩
    · cases x2
  · cases x
set_option tactic.hygienic true in
theorem clsAt_ok {cx : Cx} {N : Names} {t : Addr → Option Obj} (Z : Has cx.h₀ t) {c : Nat} {v : Value} (x : clsAt t N cx.T cx.attrs cx.fns c v = true) : ∃ C, v = .ref C ∧ ClsOk cx N c C := by
  unfold clsAt at x
  split at x
  · rename_i C
    refine ⟨C, rfl, ?_⟩
    split at x
    · rename_i o e
      split at x
      · rename_i cd hd
        simp only [Bool.and_eq_true, Bool.not_eq_true', decide_eq_true_eq] at x
        obtain ⟨⟨⟨⟨⟨⟨x1, x2⟩, x3⟩, x4⟩, x5⟩, x6⟩, x7⟩ := x
        split at x6
        · rename_i p hp hs
          split at x7
          · rename_i on en
            split at x7
            · rename_i es ep hes
              unfold nsCls at x7
              simp only [Bool.and_eq_true, Option.isNone_iff_eq_none] at x7
              obtain ⟨⟨⟨⟨⟨y1, y2⟩, y3⟩, y4⟩, y5⟩, y6⟩ := x7
              have hslot : p.2.2.2.2.1 = some (.builtin "object.__new__") := by
                unfold newSlot at x6
                split at x6
                · rename_i w hw; rw [hw, sameB_eq x6]
                · cases x6
              obtain ⟨k0, k1, k2, k3, k4, k5⟩ := p
              dsimp only at hslot hp
              subst hslot
              have ho : o = excClassObj cd.name cd.qualname C cd.ns cd.bases [.type "object"] true cd.slotNames cd.subclasses false cd.collection o.dict k0 k1 k2 k3 k5 "object.__new__" := by
                obtain ⟨oc, od, odata, oslots⟩ := o
                obtain ⟨cn, cb, cm, cns, cq, chd, csn, csub, cab, ccol, cdel⟩ := cd
                dsimp only at hd hp x1 x2 x3 x4 x5 ⊢
                subst hd x2 x3 x4 x5
                rw [sameB_eq x1]
                congr 1
                exact Array.toList_inj.mp hp
              refine ⟨cd.name, cd.qualname, cd.ns, cd.bases, cd.slotNames, cd.subclasses, cd.collection, o.dict, k0, k1, k2, k3, k5, fun z => nsFind es z, by rw [← ho]; exact kt_get Z e, ⟨on, es, ep, kt_get Z en, hes, ?_, fun _ => rfl⟩, y2, y3, y4, ?_, ?_⟩
              · intro en hen
                have := List.all_eq_true.mp y1 en (Array.mem_toList_iff.mpr hen)
                unfold strKey at this
                split at this
                · rename_i a b hk; exact ⟨a, b, hk⟩
                · cases this
              · intro n z hz
                have := List.all_eq_true.mp y5 z (List.mem_of_getElem? hz)
                simp only [Bool.and_eq_true, Option.isNone_iff_eq_none] at this
                exact ⟨this.1, noObj_eq this.2⟩
              · intro z m k hz hk
                have := List.all_eq_true.mp y6 (z, m) (mem_of_lookup hz)
                dsimp only at this
                rw [hk] at this
                dsimp only at this
                split at this
                · rename_i fa w hfa hw
                  simp only [Bool.and_eq_true, Bool.not_eq_true'] at this
                  obtain ⟨⟨⟨z1, z2⟩, z3⟩, z4⟩ := this
                  obtain ⟨fo, fd, f1, f2, f3⟩ := isFn_eq Z z2
                  refine ⟨fa, fo, fd, hfa, by show nsFind es z = _; rw [hw, ← sameB_eq z1], f1, f2, f3, fun n hn => ?_, anyObj_eq z4⟩
                  rw [List.contains_eq_mem, decide_eq_false_iff_not] at z3
                  exact z3 (List.mem_of_getElem? hn)
                · cases this
            · cases x7
          · cases x7
        · cases x6
      · cases x
    · cases x
  · cases x
theorem clssAt_get {N : Names} {T : Tab} {t : Addr → Option Obj} {attrs : List Str} {fns : List Addr} : ∀ {l : List Value} {c i : Nat} {v : Value}, clssAt t N T attrs fns c l = true → l[i]? = some v → (T.meth (c + i) 0).isSome = true → clsAt t N T attrs fns (c + i) v = true
  | [], _, i, _, _, h, _ => by simp at h
  | w :: ws, c, i, v, x, h, hm => by
    have x := And.intro (Bool.or_eq_true _ _ |>.mp (an1 x)) (an2 x)
    cases i with
    | zero =>
      simp at h; subst h
      rcases x.1 with q | q
      · rw [Nat.add_zero, Option.isSome_iff_ne_none] at hm
        exact absurd (Option.isNone_iff_eq_none.mp q) hm
      · exact q
    | succ i =>
      have e : c + (i + 1) = c + 1 + i := by omega
      rw [e] at hm ⊢
      exact clssAt_get x.2 (by simpa using h) hm
set_option tactic.hygienic true in
theorem clsBase_of {cx : Cx} {N : Names} {t : Addr → Option Obj} (Z : Has cx.h₀ t) (h1 : clssAt t N cx.T cx.attrs cx.fns 0 cx.cls = true) (h2 : attrsOk N cx.attrs = true) : ClsBase cx N := by
  unfold attrsOk at h2
  simp only [Bool.and_eq_true, decide_eq_true_eq] at h2
  obtain ⟨⟨⟨a1, a2⟩, a3⟩, a4⟩ := h2
  have get : ∀ (c : Nat) (v : Value), cx.cls[c]? = some v → (cx.T.meth c 0).isSome = true → ∃ C, v = .ref C ∧ ClsOk cx N c C := fun c v hc hm => by
    have := clssAt_get h1 hc (by rw [Nat.zero_add]; exact hm)
    rw [Nat.zero_add] at this
    exact clsAt_ok Z this
  refine ⟨fun y n h => ?_, fun i j y hi hj => ?_, by rw [sizeLine_eq]; omega, hasNo_eq a4, fun c v hc hm => ?_, fun c C hc hm => ?_⟩
  · have := List.all_eq_true.mp a1 (y, n) (mem_of_lookup h)
    dsimp only at this
    split at this
    · rename_i z hz; rw [hz, of_decide_eq_true this]
    · cases this
  · exact nodupS_inj a2 i j y (by rw [List.getElem?_map, hi]; rfl) (by rw [List.getElem?_map, hj]; rfl)
  · obtain ⟨C, e, _⟩ := get c v hc hm
    exact ⟨C, e⟩
  · obtain ⟨C', e, k⟩ := get c (.ref C) hc hm
    cases e; exact k
theorem lookup_all {α : Type} {l : List (Str × α)} {p : Str × α → Bool} (h : l.all p = true) {x : Str} {k : α} (e : l.lookup x = some k) : p (x, k) = true := List.all_eq_true.mp h _ (mem_of_lookup e)

/- what the head gives -/
set_option tactic.hygienic true in
theorem base_of {cx : Cx} {N : Names} {t : Addr → Option Obj} {nss : List (List Str)} {mg mb : Str → Option Value} (Z : Has cx.h₀ t) (g : cx.h₀.Ns mainGlobals mg) (b : cx.h₀.Ns builtinsNs mb) (hb : ∀ x : Str, x ≠ "__name__" → mb x = bootBuiltins x) (lim : cx.h₀.NoLimit)
    (ok : headOk t N cx.T cx.cls cx.fns nss = true) (okc : clssAt t N cx.T cx.attrs cx.fns 0 cx.cls = true) (oka : attrsOk N cx.attrs = true) : Base cx N ∧ ∀ (f : Nat) (a : Addr), cx.fns[f]? = some a → ∃ g, cx.T.funs[f]? = some g := by
  unfold headOk at ok
  rw [Bool.and_eq_true] at ok
  obtain ⟨ok1, ok2⟩ := ok
  obtain ⟨hlen, hfn⟩ := fnsAt_get ok2
  refine ⟨⟨⟨mg, mb, g, b, ?_⟩, lim, fun k a f h1 h2 => ?_, clsBase_of Z okc oka⟩, fun f a h => ?_⟩
  · split at ok1
    · rename_i o e
      split at ok1
      · rename_i es ep hd
        have hmg : ∀ x, mg x = nsFind es x := by
          obtain ⟨o', es', ep', e', d', _, h'⟩ := g
          rw [kt_get Z e] at e'; cases e'
          rw [hd] at d'; cases d'
          exact fun x => (h' x).symm
        unfold topOk at ok1
        simp only [Bool.and_eq_true] at ok1
        obtain ⟨⟨⟨c1, c2⟩, c3⟩, c4⟩ := ok1
        refine ⟨fun x k h => ?_, fun x k h => ?_, fun x c h => ?_, fun p hp => ?_⟩
        · have := lookup_all c1 h
          simp only at this
          split at this
          · rename_i a v h1 h2
            exact ⟨a, h1, by rw [hmg, h2, ← sameB_eq this]⟩
          · cases this
        · have := lookup_all c2 h
          simp only at this
          split at this
          · rename_i m v h1 h2
            exact ⟨m, v, h1, by rw [hmg, h2], fun ρ h => litOk_vr this⟩
          · cases this
        · have := lookup_all c3 h
          simp only at this
          split at this
          · rename_i c' v h1 h2
            exact ⟨c', h1, .inl (by rw [hmg, h2, ← sameB_eq this])⟩
          · rename_i c' h1 h2
            split at this
            · rename_i v h3
              simp only [Bool.and_eq_true, Bool.not_eq_true', decide_eq_false_iff_not] at this
              exact ⟨c', h1, .inr ⟨by rw [hmg, h2], by rw [hb _ this.2, h3, ← sameB_eq this.1]⟩⟩
            · cases this
          · cases this
        · have := List.all_eq_true.mp c4 p hp
          simp only [Bool.and_eq_true, Option.isNone_iff_eq_none, Bool.not_eq_true', decide_eq_false_iff_not] at this
          obtain ⟨⟨h1, h2⟩, h3⟩ := this
          split at h3
          · rename_i v h4
            exact ⟨by rw [hmg, h1], by rw [hb _ h2, h4, ← sameB_eq h3]⟩
          · cases h3
      · cases ok1
    · cases ok1
  · obtain ⟨ns, h⟩ := hfn k a f h1 h2
    exact fnAt_ok Z h
  · have lt : f < cx.T.funs.length := by rw [← hlen]; exact (List.getElem?_eq_some_iff.mp h).1
    exact ⟨_, List.getElem?_eq_getElem lt⟩

theorem ns_same {h : Heap} {a : Addr} {m m' : Str → Option Value} (x : h.Ns a m) (y : h.Ns a m') (n : Str) : m n = m' n := by
  obtain ⟨o, es, ep, e, d, _, f⟩ := x
  obtain ⟨o', es', ep', e', d', _, f'⟩ := y
  rw [e] at e'; cases e'
  rw [d] at d'; cases d'
  rw [← f n, f' n]
theorem vrs_script {cx : Cx} {ρ : Rho} {h : Heap} : ∀ {vs : List Value} {ns : List Int}, PyProof.Rows.IntsAre vs ns → VRs cx ρ h (ns.map .int) vs
  | [], [], _ => .nil
  | _ :: _, _ :: _, .cons n tk r => .cons (.int n tk) (vrs_script r)

/- from the head to the end -/
theorem finish {prog : Program} {w : World} {N : Names} {t : Addr → Option Obj} {T : Tab} {cls : List Value} {attrs : List Str} {fns : List Addr} {nss : List (List Str)} {s₁ : Shared} {mg mb : Str → Option Value} {ns : List Int} {vs : List Value} {fa a : Addr} {k d : Nat} {Q : Value → Shared → Prop} {E : Value → Shared → Prop}
    (Z : Has s₁.heap t) (g : s₁.heap.Ns mainGlobals mg) (b : s₁.heap.Ns builtinsNs mb) (hb : ∀ x : Str, x ≠ "__name__" → mb x = bootBuiltins x) (lim : s₁.heap.NoLimit) (ok : headOk t N T cls fns nss = true) (okc : clssAt t N T attrs fns 0 cls = true) (oka : attrsOk N attrs = true) (hsys : (t sysModules).isSome = true)
    (hobj : s₁.heap.get? a = some (listO vs 0)) (hI : PyProof.Rows.IntsAre vs ns) (hlen : ns.length ≤ 63) (hf : mg "law" = some (.ref fa)) (hk : N.funs.lookup ("law" : Str) = some k) (room : Room callerA d)
    (hlaw : ∃ H', callF T d k [.script ns] [] = .ok (.bool true) H')
    (kq : ∀ s', (∀ b o, s₁.heap.get? b = some o → s'.heap.get? b = some o) → s'.os = s₁.os → s'.gens = s₁.gens → Q (.bool true) s') :
    wpAny (model prog w) callerA (call (.ref fa) [.ref a]) Q E s₁ := by
  obtain ⟨B, defs⟩ := base_of (cx := ⟨prog, w, T, s₁, cls, attrs, fns⟩) (N := N) (nss := nss) Z g b hb lim ok okc oka
  obtain ⟨mg', mb', g', b', q, _⟩ := B.ns
  obtain ⟨a', ha', hx⟩ := q "law" k hk
  have e : fa = a' := by
    have := ns_same g g' "law"
    rw [hf, hx] at this
    cases this; rfl
  subst e
  obtain ⟨o1, e1⟩ := Option.isSome_iff_exists.mp hsys
  have R : Rel ⟨prog, w, T, s₁, cls, attrs, fns⟩ [] [] s₁ :=
    ⟨rfl, fun l o p h _ => by simp at h, fun i j p q _ h _ => by simp at h, fun p hp => by simp at hp, fun _ _ e => e, ⟨o1, kt_get Z e1⟩, ⟨s₁.heap, s₁.toks, rfl⟩⟩
  obtain ⟨H', hH⟩ := hlaw
  have x := funs_ok B defs d k fa [.script ns] [.ref a] callerA [] ha' room.toF rfl [] [] s₁ R ⟨.cons (.script hobj (by rw [sizeLine_eq]; omega) (vrs_script hI)) .nil, fun en he => by cases he⟩
  show wpAny (model prog w) callerA (call (.ref fa) [.ref a]) Q E s₁
  change SimAt _ callerA (callF T d k [.script ns] []) _ _ _ _ at x
  rw [hH] at x
  refine wpAny_mono x (fun v s' ⟨ρ', F, R', vr⟩ => ?_) fun _ _ q => q.elim
  have vr' : VR ⟨prog, w, T, s₁, cls, attrs, fns⟩ ρ' s'.heap (.bool true) v := vr
  cases vr'
  obtain ⟨h, tk, e⟩ := R'.rest
  exact kq s' R'.base (by rw [e]) (by rw [e])
end Mine

-- part MTop
namespace Mine
open PySem PySem.W PySem.Calls
/- the top's run over a tree of objects -/
noncomputable def topRunT (tb : String → Option Builtin) (p : Program) (w : World) (n₀ : Nat) (ann : Option Value) : Nat → SharedT → Thread → Option SharedT
  | 0, _, _ => none
  | n + 1, s, t => match through t with
    | true => some s
    | false => match stepOk n₀ ann t with
      | false => none
      | true => match stepT (denote tb) p w s t with
        | some (s', t') => topRunT tb p w n₀ ann n s' t'
        | none => none
theorem topRun_ofT {tb : String → Option Builtin} {p : Program} {w : World} {n₀ : Nat} {ann : Option Value} : ∀ {n : Nat} {s s' : SharedT} {t : Thread}, topRunT tb p w n₀ ann n s t = some s' → topRun tb p w n₀ ann n s.abs t = some s'.abs
  | 0, _, _, _, h => by cases h
  | n + 1, s, s', t, h => by
    unfold topRunT at h
    unfold topRun
    cases ht : through t with
    | true => rw [ht] at h; cases h; rfl
    | false =>
      rw [ht] at h
      cases hk : stepOk n₀ ann t with
      | false => rw [hk] at h; cases h
      | true =>
        rw [hk] at h
        cases hs : stepT (denote tb) p w s t with
        | none => rw [hs] at h; cases h
        | some r => obtain ⟨s₂, t₂⟩ := r; rw [hs] at h; rw [stepT_spec hs]; exact topRun_ofT h
/- the same by the library's quick twins -/
noncomputable def topRunQ (p : Program) (w : World) (n₀ : Nat) (ann : Option Value) (n : Nat) : SharedT → Thread → Option SharedT :=
  @Nat.rec (fun _ => SharedT → Thread → Option SharedT) (fun _ _ => none) (fun _ ih s t => @Bool.rec (fun _ => Option SharedT)
    (@Bool.rec (fun _ => Option SharedT) none (@Option.rec (SharedT × Thread) (fun _ => Option SharedT) none (fun r => ih r.1 r.2) (PySem.W.Fast.tw10156331382660048174 (PySem.W.Fast.tw11892475500146522536 treeTable) p w s t)) (PySem.W.Fast.tw6613529449190102663 n₀ ann t)) (some s) (through t)) n
theorem topRunQ_eq {p : Program} {w : World} {n₀ : Nat} {ann : Option Value} : ∀ (n : Nat) (s : SharedT) (t : Thread), topRunQ p w n₀ ann n s t = topRunT treeTable p w n₀ ann n s t
  | 0, _, _ => rfl
  | n + 1, s, t => by
    show @Bool.rec (fun _ => Option SharedT) (@Bool.rec (fun _ => Option SharedT) none (@Option.rec (SharedT × Thread) (fun _ => Option SharedT) none (fun r => topRunQ p w n₀ ann n r.1 r.2) (PySem.W.Fast.tw10156331382660048174 (PySem.W.Fast.tw11892475500146522536 treeTable) p w s t)) (PySem.W.Fast.tw6613529449190102663 n₀ ann t)) (some s) (through t) = _
    rw [← PySem.W.Fast.te10156331382660048174, ← PySem.W.Fast.te11892475500146522536, ← PySem.W.Fast.te6613529449190102663]
    unfold topRunT
    cases through t with
    | true => rfl
    | false =>
      cases stepOk n₀ ann t with
      | false => rfl
      | true =>
        cases hs : stepT (denote treeTable) p w s t with
        | none => rfl
        | some r => obtain ⟨s₂, t₂⟩ := r; exact topRunQ_eq n s₂ t₂
/- the objects that stand when the top begins -/
noncomputable def bootT (P : Params) : BT := ((boot_heap P).objs.toList.foldl (fun (x : BT × Nat) o => (x.1.ins x.2 o, x.2 + 1)) (.nil, 0)).1
noncomputable def bootS (w : World) (os : OsState) : SharedT := ⟨bootT w.params, (boot_heap w.params).objs.size, (boot_heap w.params).life, #[], boot_drawn, boot_toks, os⟩
theorem boot_size (w : World) : ((boot_heap w.params).isNs mainGlobals && (#[] : Array GenState).size == 0, (boot_heap w.params).objs.size, (boot_heap w.params).nsMap mainGlobals "__annotations__") = (true, 11, some (.ref 6)) := by kernel_rfl
theorem bootS_abs (w : World) (os : OsState) : (bootS w os).abs = ⟨boot_heap w.params, #[], boot_drawn, boot_toks, os⟩ := by kernel_rfl
/- the top in one look -/
theorem left_of {p q : Program} {loose : List Str} {Xt : Shared → Bool} {α : Type} {Yf : Shared → α} {Ya : World → α} {N M : Nat} {g0 : Bool}
    (e : opening p = plainProg p.main.scope.names) (hN : Nat.ble 600 N = true) (f : ∀ s, fenceModules? p s = some s) (le : Nat.ble M N = true)
    (run : ∀ (w : World) (os : OsState), (topRunQ p w 11 (some (.ref 6)) M (bootS w os) (topStub p)).map (fun s => (staticsOk (importedModules p.main.body) (boot_heap w.params) s.abs.heap && namesBound p s.abs.heap && gensDone s.abs && laidKept (boot_heap w.params) s.abs.heap,
      openSeen q loose (importedModules p.main.body) Xt g0 s.abs, Yf s.abs)) = some (true, openGood q loose, Ya w)) : LeftO p q loose Xt Yf Ya N g0 := fun w => by
  obtain ⟨⟨h, gs, d, k, os⟩, e1, e'⟩ := Option.map_eq_some_iff.mp (boot_open e hN f w)
  obtain ⟨rfl, rfl, rfl, rfl⟩ : h = boot_heap w.params ∧ gs = #[] ∧ d = boot_drawn ∧ k = boot_toks := by simpa using e'
  obtain ⟨z1, z2, z3⟩ : _ ∧ _ ∧ _ := by simpa only [Prod.mk.injEq] using boot_size w
  obtain ⟨s, h1, h2⟩ := Option.map_eq_some_iff.mp (run w os)
  obtain ⟨l1, l2, l3⟩ : _ ∧ _ ∧ _ := by simpa only [Prod.mk.injEq] using h2
  rw [topRunQ_eq] at h1
  have r := topRun_ofT h1
  rw [bootS_abs] at r
  replace r := topRun_mono (N - M) _ _ _ _ r
  rw [show M + (N - M) = N by have := Nat.le_of_ble_eq_true le; omega] at r
  have t : topFrom treeTable p w N ⟨boot_heap w.params, #[], boot_drawn, boot_toks, os⟩ = some s.abs := by
    unfold topFrom
    dsimp only
    rw [z1, z2, z3, r]
    show (match staticsOk (importedModules p.main.body) (boot_heap w.params) s.abs.heap && namesBound p s.abs.heap && gensDone s.abs && laidKept (boot_heap w.params) s.abs.heap with | true => _ | false => _) = _
    rw [l1]
  unfold openEnds
  rw [e1]
  show (topFrom treeTable p w N _).map _ = _
  rw [t]
  exact congrArg some (Prod.ext l2 l3)
end Mine

-- part LB
namespace Mine.Pure
open PySem
/-! ## running the mini language by simp -/
section
variable {α β : Type} {m : M α} {f : α → M β} {H H' : Hp} {a : α} {T : Tab} {Φ : Funs} {Γ : Env'}
theorem ret_at (a : α) (H : Hp) : M.ret a H = .ok a H := rfl
theorem look_at (f : Hp → Option α) (H : Hp) : M.look f H = (match f H with | some a => .ok a H | none => .bad) := rfl
theorem bf_len_script (ns : List Int) : bfV .len [.script ns] = M.ret (.int ns.length) := by
  funext H
  show (match (some (Val.int (ns.map Val.int).length) : Option Val) with | some a => Res.ok a H | none => .bad) = _
  rw [List.length_map]; rfl
theorem bf_len_loc {l : Nat} {xs : List Val} {H : Hp} (h : H[l]? = some (.list xs)) : bfV .len [.loc l] H = .ok (.int xs.length) H := by
  have e : bfV .len [.loc l] = M.look (fun H => (itemsOf (.loc l) H).map fun xs => Val.int xs.length) := rfl
  rw [e, look_at]
  simp only [itemsOf, h, Option.map_some]
theorem add_int (x y : Int) : binV .add (.int x) (.int y) = M.ret (.int (x + y)) := rfl
theorem sub_int (x y : Int) : binV .sub (.int x) (.int y) = M.ret (.int (x - y)) := rfl
theorem sub_script {ns : List Int} {k : Nat} {v : Int} (h : ns[k]? = some v) : subV (.script ns) (.int k) = M.ret (.int v) := by
  have lt := (List.getElem?_eq_some_iff.mp h).1
  funext H
  have e : subV (.script ns) (.int k) = M.look (fun _ => (placeOf (k : Int) ns.length).bind fun p => (ns[p]?).map Val.int) := rfl
  have : placeOf (k : Int) ns.length = some k := by
    unfold placeOf
    rw [if_pos (by omega), if_pos (by omega)]; rfl
  rw [e, look_at, this]
  simp only [Option.bind_some, h, Option.map_some, ret_at]
/- a call -/
theorem call_at {d k : Nat} {g : MFun} {args : List Val} (h : T.funs[k]? = some g) (ha : args.length = g.arity) :
    callF T (d + 1) k args H = resOf (execSs T (callF T d) g.body (args.map some ++ List.replicate g.nvars none) H) := by
  rw [callF, h]
  show runF T (callF T d) g args H = _
  unfold runF
  rw [if_pos ha]
end
end Mine.Pure

-- part LW
namespace Mine.Pure
open PySem
/-! ## a small logic over the mini language -/
noncomputable def Wp {α : Type} (m : M α) (H : Hp) (Q : α → Hp → Prop) (E : Nat → Hp → Prop) : Prop :=
  match m H with
  | .ok a H' => Q a H'
  | .exc c H' => E c H'
  | .bad => False
noncomputable def WpS (r : ResS) (Q : Env' → Hp → Prop) (R : Val → Hp → Prop) (E : Nat → Env' → Hp → Prop) : Prop :=
  match r with
  | .next Γ H => Q Γ H
  | .ret v H => R v H
  | .exc c Γ H => E c Γ H
  | .bad => False
noncomputable def getV : Env' → Nat → (Val → Prop) → Prop
  | [], _, _ => False
  | some v :: _, 0, k => k v
  | none :: _, 0, _ => False
  | _ :: Γ, n + 1, k => getV Γ n k
noncomputable def asBool : Val → (Bool → Prop) → Prop
  | .bool b, k => k b
  | _, _ => False
noncomputable def getO {α : Type} : Option α → (α → Prop) → Prop
  | some a, k => k a
  | none, _ => False
noncomputable def brB : Bool → Prop → Prop → Prop
  | true, a, _ => a
  | false, _, b => b
/- no exception -/
noncomputable def NoE : Nat → Hp → Prop := fun _ _ => False
noncomputable def NoX : Nat → Env' → Hp → Prop := fun _ _ _ => False
/- an operation on two values -/
noncomputable def wpBin (op : BOp) (a b : Val) (H : Hp) (Q : Val → Hp → Prop) (E : Nat → Hp → Prop) : Prop :=
  match a, b with
  | .int x, .int y => (match op with
    | .add => Q (.int (x + y)) H
    | .sub => Q (.int (x - y)) H
    | .mul => (small x || small y) = true ∧ Q (.int (x * y)) H
    | .fdiv => ¬ (y = 0 ∨ 1073741824 ≤ y.natAbs) ∧ Q (.int (Int.fdiv x y)) H
    | .mod => ¬ (y = 0) ∧ Q (.int (Int.fmod x y)) H)
  | a, b => Wp (binV op a b) H Q E
/-! what a run must do, read off the text -/
mutual
noncomputable def wpE (T : Tab) (Φ : Funs) : ME → Env' → Hp → (Val → Hp → Prop) → (Nat → Hp → Prop) → Prop
  | .none, _, H, Q, _ => Q .none H
  | .bool b, _, H, Q, _ => Q (.bool b) H
  | .int i, _, H, Q, _ => Q (.int i) H
  | .glob k, _, H, Q, _ => getO T.globs[k]? fun v => Q v H
  | .var i, Γ, H, Q, _ => getV Γ i fun v => Q v H
  | .bin op a b, Γ, H, Q, E => wpE T Φ a Γ H (fun x H => wpE T Φ b Γ H (fun y H => wpBin op x y H Q E) E) E
  | .neg a, Γ, H, Q, E => Wp (evalE T Φ (.neg a) Γ) H Q E
  | .not a, Γ, H, Q, E => wpE T Φ a Γ H (fun x H => asBool x fun b => Q (.bool (!b)) H) E
  | .and a b, Γ, H, Q, E => wpE T Φ a Γ H (fun x H => asBool x fun t => brB t (wpE T Φ b Γ H Q E) (Q (.bool false) H)) E
  | .or a b, Γ, H, Q, E => wpE T Φ a Γ H (fun x H => asBool x fun t => brB t (Q (.bool true) H) (wpE T Φ b Γ H Q E)) E
  | .cmp op a b, Γ, H, Q, E => wpE T Φ a Γ H (fun x H => wpE T Φ b Γ H (fun y H => getO (cmpV op x y H) fun r => Q (.bool r) H) E) E
  | .cmp2 op1 op2 a b c, Γ, H, Q, E => wpE T Φ a Γ H (fun x H => wpE T Φ b Γ H (fun y H => getO (cmpV op1 x y H) fun r => brB r (wpE T Φ c Γ H (fun z H => getO (cmpV op2 y z H) fun r => Q (.bool r) H) E) (Q (.bool false) H)) E) E
  | .sub a i, Γ, H, Q, E => wpE T Φ a Γ H (fun x H => wpE T Φ i Γ H (fun y H => Wp (subV x y) H Q E) E) E
  | .tup es, Γ, H, Q, E => wpEs T Φ es Γ H (fun vs H => Q (.tup vs) H) E
  | .list es, Γ, H, Q, E => wpEs T Φ es Γ H (fun vs H => Q (.loc H.length) (H ++ [.list vs])) E
  | .dict, _, H, Q, _ => Q (.loc H.length) (H ++ [.dict []])
  | .attr a n, Γ, H, Q, E => wpE T Φ a Γ H (fun x H => Wp (attrV x n) H Q E) E
  | .call f es, Γ, H, Q, E => wpEs T Φ es Γ H (fun vs H => Wp (Φ f vs) H Q E) E
  | .new c es, Γ, H, Q, E => getO (T.meth c 0) (fun _ => wpEs T Φ es Γ H (fun vs H => Wp (newV T Φ c vs) H Q E) E)
  | .umeth a m es, Γ, H, Q, E => wpE T Φ a Γ H (fun o H => Wp (umethOf T o m) H (fun k H => wpEs T Φ es Γ H (fun vs H => Wp (Φ k (o :: vs)) H Q E) E) E) E
  | .bf f es, Γ, H, Q, E => wpEs T Φ es Γ H (fun vs H => Wp (bfV f vs) H Q E) E
  | .bm a m es, Γ, H, Q, E => wpE T Φ a Γ H (fun o H => getO (bmFits m o H) fun _ => wpEs T Φ es Γ H (fun vs H => Wp (bmV m o vs) H Q E) E) E
  | .isinst a t, Γ, H, Q, E => wpE T Φ a Γ H (fun x H => Wp (isinstV T x t) H Q E) E
  | .comp elt it cond, Γ, H, Q, E => Wp (evalE T Φ (.comp elt it cond) Γ) H Q E
noncomputable def wpO (T : Tab) (Φ : Funs) : MEo → Env' → Hp → (Val → Hp → Prop) → (Nat → Hp → Prop) → Prop
  | .none, _, H, Q, _ => Q .none H
  | .some e, Γ, H, Q, E => wpE T Φ e Γ H Q E
noncomputable def wpEs (T : Tab) (Φ : Funs) : MEs → Env' → Hp → (List Val → Hp → Prop) → (Nat → Hp → Prop) → Prop
  | .nil, _, H, Q, _ => Q [] H
  | .cons e es, Γ, H, Q, E => wpE T Φ e Γ H (fun v H => wpEs T Φ es Γ H (fun vs H => Q (v :: vs) H) E) E
end
mutual
noncomputable def wpS (T : Tab) (Φ : Funs) : MS → Env' → Hp → (Env' → Hp → Prop) → (Val → Hp → Prop) → (Nat → Env' → Hp → Prop) → Prop
  | .expr e, Γ, H, Q, _, E => wpE T Φ e Γ H (fun _ H => Q Γ H) fun c H => E c Γ H
  | .assign i e, Γ, H, Q, _, E => wpE T Φ e Γ H (fun v H => Q (Γ.set i (some v)) H) fun c H => E c Γ H
  | .setattr o n e, Γ, H, Q, _, E => wpE T Φ e Γ H (fun v H => wpE T Φ o Γ H (fun o H => Wp (setattrV o n v) H (fun _ H => Q Γ H) fun c H => E c Γ H) fun c H => E c Γ H) fun c H => E c Γ H
  | .setitem o i e, Γ, H, Q, _, E => wpE T Φ e Γ H (fun v H => wpE T Φ o Γ H (fun o H => wpE T Φ i Γ H (fun i H => Wp (setitemV o i v) H (fun _ H => Q Γ H) fun c H => E c Γ H) fun c H => E c Γ H) fun c H => E c Γ H) fun c H => E c Γ H
  | .ret e, Γ, H, _, R, E => wpO T Φ e Γ H R fun c H => E c Γ H
  | .ite c t f, Γ, H, Q, R, E => wpE T Φ c Γ H (fun v H => asBool v fun b => brB b (wpSs T Φ t Γ H Q R E) (wpSs T Φ f Γ H Q R E)) fun c H => E c Γ H
  | .raise _ _, _, _, _, _, _ => False
  | .loop c b, Γ, H, Q, R, E => WpS (execS T Φ (.loop c b) Γ H) Q R E
  | .each i a b, Γ, H, Q, R, E => WpS (execS T Φ (.each i a b) Γ H) Q R E
noncomputable def wpSs (T : Tab) (Φ : Funs) : MSs → Env' → Hp → (Env' → Hp → Prop) → (Val → Hp → Prop) → (Nat → Env' → Hp → Prop) → Prop
  | .nil, Γ, H, Q, _, _ => Q Γ H
  | .cons s ss, Γ, H, Q, R, E => wpS T Φ s Γ H (fun Γ H => wpSs T Φ ss Γ H Q R E) R E
end
section
variable {α β : Type} {T : Tab} {Φ : Funs} {Γ : Env'} {H : Hp}
variable {Q : Val → Hp → Prop} {E : Nat → Hp → Prop} {QS : Env' → Hp → Prop} {R : Val → Hp → Prop} {ES : Nat → Env' → Hp → Prop}
theorem wp_ret {Q : α → Hp → Prop} (a : α) : Wp (M.ret a) H Q E = Q a H := rfl
theorem wp_bnd {Q : β → Hp → Prop} (m : M α) (f : α → M β) : Wp (m.bnd f) H Q E = Wp m H (fun a H' => Wp (f a) H' Q E) E := by
  unfold Wp M.bnd
  cases m H <;> rfl
theorem wp_alloc (o : HObj) : Wp (M.alloc o) H Q E = Q (.loc H.length) (H ++ [o]) := rfl
theorem Wp.mono {Q Q' : α → Hp → Prop} {E' : Nat → Hp → Prop} {m : M α} (h : Wp m H Q E) (hq : ∀ a H', Q a H' → Q' a H') (he : ∀ c H', E c H' → E' c H') : Wp m H Q' E' := by
  unfold Wp at h ⊢
  cases hm : m H with
  | ok a H' => rw [hm] at h; exact hq _ _ h
  | exc c H' => rw [hm] at h; exact he _ _ h
  | bad => rw [hm] at h; exact h
theorem Wp.then {Q Q' : α → Hp → Prop} {m : M α} (h : Wp m H Q NoE) (hq : ∀ a H', Q a H' → Q' a H') : Wp m H Q' E :=
  h.mono hq (fun _ _ f => f.elim)
theorem Wp.of_eq {Q : α → Hp → Prop} {m : M α} {a : α} {H' : Hp} (h : m H = .ok a H') (q : Q a H') : Wp m H Q E := by
  unfold Wp; rw [h]; exact q
theorem Wp.get {Q : α → Hp → Prop} {m : M α} (h : Wp m H Q NoE) : ∃ a H', m H = .ok a H' ∧ Q a H' := by
  unfold Wp at h
  cases hm : m H with
  | ok a H' => rw [hm] at h; exact ⟨a, H', rfl, h⟩
  | exc c H' => rw [hm] at h; exact h.elim
  | bad => rw [hm] at h; exact h.elim
theorem WpS.mono {r : ResS} {Q' : Env' → Hp → Prop} {R' : Val → Hp → Prop} {E' : Nat → Env' → Hp → Prop} (h : WpS r QS R ES) (hq : ∀ Γ H', QS Γ H' → Q' Γ H') (hr : ∀ v H', R v H' → R' v H') (he : ∀ c Γ H', ES c Γ H' → E' c Γ H') : WpS r Q' R' E' := by
  cases r with
  | next Γ H => exact hq _ _ h
  | ret v H => exact hr _ _ h
  | exc c Γ H => exact he _ _ _ h
  | bad => exact h
theorem wps_bnd (m : M α) (Γ : Env') (f : α → Hp → ResS) : WpS (bndS m Γ f H) QS R ES = Wp m H (fun a H' => WpS (f a H') QS R ES) (fun c H' => ES c Γ H') := by
  unfold Wp bndS
  cases m H <;> rfl
theorem wps_then (r : ResS) (f : Env' → Hp → ResS) : WpS (thenS r f) QS R ES = WpS r (fun Γ H => WpS (f Γ H) QS R ES) R ES := by
  cases r <;> rfl
theorem wp_opt {Q : α → Hp → Prop} (o : Option α) : Wp (M.ofOpt o) H Q E = getO o (fun v => Q v H) := by cases o <;> rfl
theorem wp_look {Q : α → Hp → Prop} (f : Hp → Option α) : Wp (M.look f) H Q E = getO (f H) (fun v => Q v H) := by
  unfold Wp M.look
  cases f H <;> rfl
theorem getV_get : ∀ (Γ : Env') (i : Nat) (k : Val → Prop), getV Γ i k = getO (match Γ[i]? with | some (some v) => some v | _ => none) k
  | [], i, k => by cases i <;> rfl
  | some v :: Γ, 0, k => rfl
  | none :: Γ, 0, k => rfl
  | o :: Γ, i + 1, k => by
    have : getV (o :: Γ) (i + 1) k = getV Γ i k := by cases o <;> rfl
    rw [this, getV_get Γ i k, List.getElem?_cons_succ]
theorem getV_zero (v : Val) (Γ : Env') (k : Val → Prop) : getV (some v :: Γ) 0 k = k v := rfl
theorem getV_succ (o : Option Val) (Γ : Env') (n : Nat) (k : Val → Prop) : getV (o :: Γ) (n + 1) k = getV Γ n k := by cases o <;> rfl
theorem getV_s (v : Val) (Γ : Env') (n : Nat) (k : Val → Prop) : getV (some v :: Γ) (n + 1) k = getV Γ n k := rfl
theorem getV_n (Γ : Env') (n : Nat) (k : Val → Prop) : getV (none :: Γ) (n + 1) k = getV Γ n k := rfl
theorem asBool_bool (b : Bool) (k : Bool → Prop) : asBool (.bool b) k = k b := rfl
theorem getO_some {α : Type} (a : α) (k : α → Prop) : getO (some a) k = k a := rfl
theorem getO_of {α : Type} {o : Option α} {a : α} (h : o = some a) (k : α → Prop) : getO o k = k a := by rw [h]; rfl
theorem brB_true (A B : Prop) : brB true A B = A := rfl
theorem brB_false (A B : Prop) : brB false A B = B := rfl
theorem brB_not (b : Bool) (A B : Prop) : brB (!b) A B = brB b B A := by cases b <;> rfl
theorem brB_pos {p : Prop} [Decidable p] (h : p) (A B : Prop) : brB (decide p) A B = A := by rw [decide_eq_true h]; rfl
theorem brB_neg {p : Prop} [Decidable p] (h : ¬ p) (A B : Prop) : brB (decide p) A B = B := by rw [decide_eq_false h]; rfl
theorem brB_split {p : Prop} [Decidable p] {A B : Prop} (h1 : p → A) (h2 : ¬ p → B) : brB (decide p) A B := by
  by_cases h : p
  · rw [brB_pos h]; exact h1 h
  · rw [brB_neg h]; exact h2 h
theorem brB_cases {b : Bool} {A B : Prop} (h1 : b = true → A) (h2 : b = false → B) : brB b A B := by
  cases b
  · exact h2 rfl
  · exact h1 rfl
theorem wp_truth {Q : Bool → Hp → Prop} (v : Val) : Wp (truth v) H Q E = asBool v (fun b => Q b H) := by cases v <;> rfl
theorem asBool_br (x : Val) (A B : Prop) (f : Bool → Prop) (h1 : f true = A) (h2 : f false = B) : asBool x f = asBool x (fun t => brB t A B) := by
  cases x with
  | bool b => cases b; exact h2; exact h1
  | _ => rfl
theorem getO_br (x : Option Bool) (A B : Prop) (f : Bool → Prop) (h1 : f true = A) (h2 : f false = B) : getO x f = getO x (fun t => brB t A B) := by
  cases x with
  | some b => cases b; exact h2; exact h1
  | _ => rfl
theorem wv_ite {Q : α → Hp → Prop} (p : Prop) [Decidable p] (m : M α) : Wp (if p then m else M.bad) H Q E = (p ∧ Wp m H Q E) := by
  by_cases h : p
  · rw [if_pos h]; simp [h]
  · rw [if_neg h]; simp [h]; exact fun h => h
theorem wv_ite' {Q : α → Hp → Prop} (p : Prop) [Decidable p] (m : M α) : Wp (if p then M.bad else m) H Q E = (¬ p ∧ Wp m H Q E) := by
  by_cases h : p
  · rw [if_pos h]; simp [h]; exact fun h => h
  · rw [if_neg h]; simp [h]
theorem wpBin_eq (op : BOp) (a b : Val) : Wp (binV op a b) H Q E = wpBin op a b H Q E := by
  unfold wpBin
  split
  · cases op with
    | add => rfl
    | sub => rfl
    | mul => exact wv_ite _ _
    | fdiv => exact wv_ite' _ _
    | mod => exact wv_ite' _ _
  · rfl
/-! expressions -/
theorem wp_none : wpE T Φ .none Γ H Q E = Q .none H := rfl
theorem wp_bool (b : Bool) : wpE T Φ (.bool b) Γ H Q E = Q (.bool b) H := rfl
theorem wp_int (i : Int) : wpE T Φ (.int i) Γ H Q E = Q (.int i) H := rfl
theorem wp_glob (k : Nat) : wpE T Φ (.glob k) Γ H Q E = getO T.globs[k]? (fun v => Q v H) := rfl
theorem wp_var (i : Nat) : wpE T Φ (.var i) Γ H Q E = getV Γ i (fun v => Q v H) := rfl
theorem wp_bin (op : BOp) (a b : ME) : wpE T Φ (.bin op a b) Γ H Q E = wpE T Φ a Γ H (fun x H => wpE T Φ b Γ H (fun y H => wpBin op x y H Q E) E) E := rfl
theorem wp_not (a : ME) : wpE T Φ (.not a) Γ H Q E = wpE T Φ a Γ H (fun x H => asBool x fun b => Q (.bool (!b)) H) E := rfl
theorem wp_and (a b : ME) : wpE T Φ (.and a b) Γ H Q E = wpE T Φ a Γ H (fun x H => asBool x fun t => brB t (wpE T Φ b Γ H Q E) (Q (.bool false) H)) E := rfl
theorem wp_or (a b : ME) : wpE T Φ (.or a b) Γ H Q E = wpE T Φ a Γ H (fun x H => asBool x fun t => brB t (Q (.bool true) H) (wpE T Φ b Γ H Q E)) E := rfl
theorem wp_cmp (op : COp) (a b : ME) : wpE T Φ (.cmp op a b) Γ H Q E = wpE T Φ a Γ H (fun x H => wpE T Φ b Γ H (fun y H => getO (cmpV op x y H) fun r => Q (.bool r) H) E) E := rfl
theorem wp_cmp2 (op1 op2 : COp) (a b c : ME) : wpE T Φ (.cmp2 op1 op2 a b c) Γ H Q E = wpE T Φ a Γ H (fun x H => wpE T Φ b Γ H (fun y H => getO (cmpV op1 x y H) fun r => brB r (wpE T Φ c Γ H (fun z H => getO (cmpV op2 y z H) fun r => Q (.bool r) H) E) (Q (.bool false) H)) E) E := rfl
theorem wp_sub (a i : ME) : wpE T Φ (.sub a i) Γ H Q E = wpE T Φ a Γ H (fun x H => wpE T Φ i Γ H (fun y H => Wp (subV x y) H Q E) E) E := rfl
theorem wp_oNone : wpO T Φ .none Γ H Q E = Q .none H := rfl
theorem wp_oSome (e : ME) : wpO T Φ (.some e) Γ H Q E = wpE T Φ e Γ H Q E := rfl
theorem wp_tup (es : MEs) : wpE T Φ (.tup es) Γ H Q E = wpEs T Φ es Γ H (fun vs H => Q (.tup vs) H) E := rfl
theorem wp_list (es : MEs) : wpE T Φ (.list es) Γ H Q E = wpEs T Φ es Γ H (fun vs H => Q (.loc H.length) (H ++ [.list vs])) E := rfl
theorem wp_dict : wpE T Φ .dict Γ H Q E = Q (.loc H.length) (H ++ [.dict []]) := rfl
theorem wp_attr (a : ME) (n : Nat) : wpE T Φ (.attr a n) Γ H Q E = wpE T Φ a Γ H (fun x H => Wp (attrV x n) H Q E) E := rfl
theorem wp_callE (f : Nat) (es : MEs) : wpE T Φ (.call f es) Γ H Q E = wpEs T Φ es Γ H (fun vs H => Wp (Φ f vs) H Q E) E := rfl
theorem wp_new (c : Nat) (es : MEs) : wpE T Φ (.new c es) Γ H Q E = getO (T.meth c 0) (fun _ => wpEs T Φ es Γ H (fun vs H => Wp (newV T Φ c vs) H Q E) E) := rfl
theorem wp_umeth (a : ME) (m : Nat) (es : MEs) : wpE T Φ (.umeth a m es) Γ H Q E = wpE T Φ a Γ H (fun o H => Wp (umethOf T o m) H (fun k H => wpEs T Φ es Γ H (fun vs H => Wp (Φ k (o :: vs)) H Q E) E) E) E := rfl
theorem wp_bf (f : BF) (es : MEs) : wpE T Φ (.bf f es) Γ H Q E = wpEs T Φ es Γ H (fun vs H => Wp (bfV f vs) H Q E) E := rfl
theorem wp_bm (a : ME) (m : BM) (es : MEs) : wpE T Φ (.bm a m es) Γ H Q E = wpE T Φ a Γ H (fun o H => getO (bmFits m o H) fun _ => wpEs T Φ es Γ H (fun vs H => Wp (bmV m o vs) H Q E) E) E := rfl
theorem wp_isinst (a : ME) (t : Ty) : wpE T Φ (.isinst a t) Γ H Q E = wpE T Φ a Γ H (fun x H => Wp (isinstV T x t) H Q E) E := rfl
theorem wp_nil {Q : List Val → Hp → Prop} : wpEs T Φ .nil Γ H Q E = Q [] H := rfl
theorem wp_cons {Q : List Val → Hp → Prop} (e : ME) (es : MEs) : wpEs T Φ (.cons e es) Γ H Q E = wpE T Φ e Γ H (fun v H => wpEs T Φ es Γ H (fun vs H => Q (v :: vs) H) E) E := rfl
/-! statements -/
theorem wps_nil : wpSs T Φ .nil Γ H QS R ES = QS Γ H := rfl
theorem wps_cons (s : MS) (ss : MSs) : wpSs T Φ (.cons s ss) Γ H QS R ES = wpS T Φ s Γ H (fun Γ H => wpSs T Φ ss Γ H QS R ES) R ES := rfl
theorem wps_expr (e : ME) : wpS T Φ (.expr e) Γ H QS R ES = wpE T Φ e Γ H (fun _ H => QS Γ H) (fun c H => ES c Γ H) := rfl
theorem wps_assign (i : Nat) (e : ME) : wpS T Φ (.assign i e) Γ H QS R ES = wpE T Φ e Γ H (fun v H => QS (Γ.set i (some v)) H) (fun c H => ES c Γ H) := rfl
theorem wps_ret (e : MEo) : wpS T Φ (.ret e) Γ H QS R ES = wpO T Φ e Γ H R (fun c H => ES c Γ H) := rfl
theorem wps_ite (c : ME) (t f : MSs) : wpS T Φ (.ite c t f) Γ H QS R ES = wpE T Φ c Γ H (fun v H => asBool v fun b => brB b (wpSs T Φ t Γ H QS R ES) (wpSs T Φ f Γ H QS R ES)) (fun c H => ES c Γ H) := rfl
theorem wps_setattr (o : ME) (n : Nat) (e : ME) : wpS T Φ (.setattr o n e) Γ H QS R ES = wpE T Φ e Γ H (fun v H => wpE T Φ o Γ H (fun o H => Wp (setattrV o n v) H (fun _ H => QS Γ H) (fun c H => ES c Γ H)) (fun c H => ES c Γ H)) (fun c H => ES c Γ H) := rfl
theorem wps_setitem (o i e : ME) : wpS T Φ (.setitem o i e) Γ H QS R ES = wpE T Φ e Γ H (fun v H => wpE T Φ o Γ H (fun o H => wpE T Φ i Γ H (fun i H => Wp (setitemV o i v) H (fun _ H => QS Γ H) (fun c H => ES c Γ H)) (fun c H => ES c Γ H)) (fun c H => ES c Γ H)) (fun c H => ES c Γ H) := rfl
theorem wps_raise (c : Nat) (m : Str) : wpS T Φ (.raise c m) Γ H QS R ES = False := rfl
theorem wpE_nx {e : ME} {Q Q' : Val → Hp → Prop} (h : ∀ v H, Q v H = Q' v H) : wpE T Φ e Γ H Q E = wpE T Φ e Γ H Q' E := congrArg (fun q => wpE T Φ e Γ H q E) (funext fun v => funext fun H => h v H)
theorem Wp_nx {m : M α} {Q Q' : α → Hp → Prop} (h : ∀ v H, Q v H = Q' v H) : Wp m H Q E = Wp m H Q' E := congrArg (fun q => Wp m H q E) (funext fun v => funext fun H => h v H)
theorem getO_nx {o : Option α} {Q Q' : α → Prop} (h : ∀ v, Q v = Q' v) : getO o Q = getO o Q' := congrArg (getO o) (funext h)
theorem wpS_nx {e : MS} {Q Q' : Env' → Hp → Prop} (h : ∀ v H, Q v H = Q' v H) : wpS T Φ e Γ H Q R ES = wpS T Φ e Γ H Q' R ES := congrArg (fun q => wpS T Φ e Γ H q R ES) (funext fun v => funext fun H => h v H)
end
/-! the two readings are one -/
mutual
theorem wpE_eq (T : Tab) (Φ : Funs) : ∀ (e : ME) (Γ : Env') (H : Hp) (Q : Val → Hp → Prop) (E : Nat → Hp → Prop), Wp (evalE T Φ e Γ) H Q E = wpE T Φ e Γ H Q E
  | .none, _, _, _, _ => rfl
  | .bool _, _, _, _, _ => rfl
  | .int _, _, _, _, _ => rfl
  | .glob k, _, H, Q, E => wp_opt _
  | .var i, Γ, H, Q, E => (wp_opt _).trans (getV_get Γ i fun v => Q v H).symm
  | .bin op a b, Γ, H, Q, E => (wp_bnd _ _).trans ((wpE_eq T Φ a Γ H _ E).trans ((wpE_nx fun x H => (wp_bnd _ _).trans ((wpE_eq T Φ b Γ H _ E).trans (wpE_nx fun y H => wpBin_eq op x y))).trans (wp_bin op a b).symm))
  | .neg _, _, _, _, _ => rfl
  | .not a, Γ, H, Q, E => (wp_bnd _ _).trans ((wpE_eq T Φ a Γ H _ E).trans ((wpE_nx fun x H => (wp_bnd _ _).trans (wp_truth x)).trans (wp_not a).symm))
  | .and a b, Γ, H, Q, E => (wp_bnd _ _).trans ((wpE_eq T Φ a Γ H _ E).trans ((wpE_nx fun x H => (wp_bnd _ _).trans ((wp_truth x).trans (asBool_br _ _ _ _ (wpE_eq T Φ b Γ H Q E) rfl))).trans (wp_and a b).symm))
  | .or a b, Γ, H, Q, E => (wp_bnd _ _).trans ((wpE_eq T Φ a Γ H _ E).trans ((wpE_nx fun x H => (wp_bnd _ _).trans ((wp_truth x).trans (asBool_br _ _ _ _ rfl (wpE_eq T Φ b Γ H Q E)))).trans (wp_or a b).symm))
  | .cmp op a b, Γ, H, Q, E => (wp_bnd _ _).trans ((wpE_eq T Φ a Γ H _ E).trans ((wpE_nx fun x H => (wp_bnd _ _).trans ((wpE_eq T Φ b Γ H _ E).trans (wpE_nx fun y H => (wp_bnd _ _).trans (wp_look _)))).trans (wp_cmp op a b).symm))
  | .cmp2 op1 op2 a b c, Γ, H, Q, E => (wp_bnd _ _).trans ((wpE_eq T Φ a Γ H _ E).trans ((wpE_nx fun x H => (wp_bnd _ _).trans ((wpE_eq T Φ b Γ H _ E).trans (wpE_nx fun y H => (wp_bnd _ _).trans ((wp_look _).trans (getO_br _ _ _ _ ((wp_bnd _ _).trans ((wpE_eq T Φ c Γ H _ E).trans (wpE_nx fun z H => (wp_bnd _ _).trans (wp_look _)))) rfl))))).trans (wp_cmp2 op1 op2 a b c).symm))
  | .sub a i, Γ, H, Q, E => (wp_bnd _ _).trans ((wpE_eq T Φ a Γ H _ E).trans ((wpE_nx fun x H => (wp_bnd _ _).trans (wpE_eq T Φ i Γ H _ E)).trans (wp_sub a i).symm))
  | .tup es, Γ, H, Q, E => (wp_bnd _ _).trans ((wpEs_eq T Φ es Γ H _ E).trans rfl)
  | .list es, Γ, H, Q, E => (wp_bnd _ _).trans ((wpEs_eq T Φ es Γ H _ E).trans rfl)
  | .dict, _, _, _, _ => rfl
  | .attr a n, Γ, H, Q, E => (wp_bnd _ _).trans (wpE_eq T Φ a Γ H _ E)
  | .call f es, Γ, H, Q, E => (wp_bnd _ _).trans (wpEs_eq T Φ es Γ H _ E)
  | .new c es, Γ, H, Q, E => by
    have h : evalE T Φ (.new c es) Γ = (match T.meth c 0 with
      | some _ => (evalEs T Φ es Γ).bnd fun vs => newV T Φ c vs
      | none => M.bad) := rfl
    rw [h]
    show _ = getO (T.meth c 0) _
    cases T.meth c 0 with
    | none => rfl
    | some k => exact (wp_bnd _ _).trans (wpEs_eq T Φ es Γ H _ E)
  | .umeth a m es, Γ, H, Q, E => (wp_bnd _ _).trans ((wpE_eq T Φ a Γ H _ E).trans ((wpE_nx fun o H => (wp_bnd _ _).trans (Wp_nx fun k H => (wp_bnd _ _).trans (wpEs_eq T Φ es Γ H _ E))).trans (wp_umeth a m es).symm))
  | .bf f es, Γ, H, Q, E => (wp_bnd _ _).trans (wpEs_eq T Φ es Γ H _ E)
  | .bm a m es, Γ, H, Q, E => (wp_bnd _ _).trans ((wpE_eq T Φ a Γ H _ E).trans ((wpE_nx fun o H => (wp_bnd _ _).trans ((wp_look _).trans (getO_nx fun _ => (wp_bnd _ _).trans (wpEs_eq T Φ es Γ H _ E)))).trans (wp_bm a m es).symm))
  | .isinst a t, Γ, H, Q, E => (wp_bnd _ _).trans (wpE_eq T Φ a Γ H _ E)
  | .comp _ _ _, _, _, _, _ => rfl
theorem wpO_eq (T : Tab) (Φ : Funs) : ∀ (e : MEo) (Γ : Env') (H : Hp) (Q : Val → Hp → Prop) (E : Nat → Hp → Prop), Wp (evalO T Φ e Γ) H Q E = wpO T Φ e Γ H Q E
  | .none, _, _, _, _ => rfl
  | .some e, Γ, H, Q, E => wpE_eq T Φ e Γ H Q E
theorem wpEs_eq (T : Tab) (Φ : Funs) : ∀ (es : MEs) (Γ : Env') (H : Hp) (Q : List Val → Hp → Prop) (E : Nat → Hp → Prop), Wp (evalEs T Φ es Γ) H Q E = wpEs T Φ es Γ H Q E
  | .nil, _, _, _, _ => rfl
  | .cons e es, Γ, H, Q, E => (wp_bnd _ _).trans ((wpE_eq T Φ e Γ H _ E).trans ((wpE_nx fun v H => (wp_bnd _ _).trans (wpEs_eq T Φ es Γ H _ E)).trans (wp_cons e es).symm))
end
mutual
theorem wpS_eq (T : Tab) (Φ : Funs) : ∀ (s : MS) (Γ : Env') (H : Hp) (Q : Env' → Hp → Prop) (R : Val → Hp → Prop) (E : Nat → Env' → Hp → Prop), WpS (execS T Φ s Γ H) Q R E = wpS T Φ s Γ H Q R E
  | .expr e, Γ, H, Q, R, E => (wps_bnd _ _ _).trans (wpE_eq T Φ e Γ H _ _)
  | .assign i e, Γ, H, Q, R, E => (wps_bnd _ _ _).trans (wpE_eq T Φ e Γ H _ _)
  | .setattr o n e, Γ, H, Q, R, E => (wps_bnd _ _ _).trans ((wpE_eq T Φ e Γ H _ _).trans ((wpE_nx fun v H => (wps_bnd _ _ _).trans ((wpE_eq T Φ o Γ H _ _).trans (wpE_nx fun o H => wps_bnd _ _ _))).trans (wps_setattr o n e).symm))
  | .setitem o i e, Γ, H, Q, R, E => (wps_bnd _ _ _).trans ((wpE_eq T Φ e Γ H _ _).trans ((wpE_nx fun v H => (wps_bnd _ _ _).trans ((wpE_eq T Φ o Γ H _ _).trans (wpE_nx fun o H => (wps_bnd _ _ _).trans ((wpE_eq T Φ i Γ H _ _).trans (wpE_nx fun i H => wps_bnd _ _ _))))).trans (wps_setitem o i e).symm))
  | .ret e, Γ, H, Q, R, E => (wps_bnd _ _ _).trans (wpO_eq T Φ e Γ H _ _)
  | .ite c t f, Γ, H, Q, R, E => (wps_bnd _ _ _).trans ((wp_bnd _ _).trans ((wpE_eq T Φ c Γ H _ _).trans ((wpE_nx fun x H => (wp_truth x).trans (asBool_br _ _ _ _ (wpSs_eq T Φ t Γ H Q R E) (wpSs_eq T Φ f Γ H Q R E))).trans (wps_ite c t f).symm)))
  | .raise _ _, _, _, _, _, _ => rfl
  | .loop _ _, _, _, _, _, _ => rfl
  | .each _ _ _, _, _, _, _, _ => rfl
theorem wpSs_eq (T : Tab) (Φ : Funs) : ∀ (ss : MSs) (Γ : Env') (H : Hp) (Q : Env' → Hp → Prop) (R : Val → Hp → Prop) (E : Nat → Env' → Hp → Prop), WpS (execSs T Φ ss Γ H) Q R E = wpSs T Φ ss Γ H Q R E
  | .nil, _, _, _, _, _ => rfl
  | .cons s ss, Γ, H, Q, R, E => (wps_then _ _).trans ((wpS_eq T Φ s Γ H _ R E).trans ((wpS_nx fun Γ H => wpSs_eq T Φ ss Γ H Q R E).trans (wps_cons s ss).symm))
end
section
variable {α β : Type} {T : Tab} {Φ : Funs} {Γ : Env'} {H : Hp}
variable {Q : Val → Hp → Prop} {E : Nat → Hp → Prop} {QS : Env' → Hp → Prop} {R : Val → Hp → Prop} {ES : Nat → Env' → Hp → Prop}
theorem wpE_mono {e : ME} {Q' : Val → Hp → Prop} {E' : Nat → Hp → Prop} (h : wpE T Φ e Γ H Q E) (hq : ∀ a H', Q a H' → Q' a H') (he : ∀ c H', E c H' → E' c H') : wpE T Φ e Γ H Q' E' := by
  rw [← wpE_eq] at h ⊢; exact h.mono hq he
theorem wpE_then {e : ME} {Q' : Val → Hp → Prop} (h : wpE T Φ e Γ H Q NoE) (hq : ∀ a H', Q a H' → Q' a H') : wpE T Φ e Γ H Q' E := wpE_mono h hq fun _ _ f => f.elim
theorem wpS_mono {s : MS} {Q' : Env' → Hp → Prop} {R' : Val → Hp → Prop} {E' : Nat → Env' → Hp → Prop} (h : wpS T Φ s Γ H QS R ES) (hq : ∀ Γ H', QS Γ H' → Q' Γ H') (hr : ∀ v H', R v H' → R' v H') (he : ∀ c Γ H', ES c Γ H' → E' c Γ H') : wpS T Φ s Γ H Q' R' E' := by
  rw [← wpS_eq] at h ⊢; exact h.mono hq hr he
theorem wpSs_mono {s : MSs} {Q' : Env' → Hp → Prop} {R' : Val → Hp → Prop} {E' : Nat → Env' → Hp → Prop} (h : wpSs T Φ s Γ H QS R ES) (hq : ∀ Γ H', QS Γ H' → Q' Γ H') (hr : ∀ v H', R v H' → R' v H') (he : ∀ c Γ H', ES c Γ H' → E' c Γ H') : wpSs T Φ s Γ H Q' R' E' := by
  rw [← wpSs_eq] at h ⊢; exact h.mono hq hr he
/-! calls -/
theorem wp_call {d k : Nat} {g : MFun} {args : List Val} (h : T.funs[k]? = some g) (ha : args.length = g.arity) :
    Wp (callF T (d + 1) k args) H Q E = wpSs T (callF T d) g.body (args.map some ++ List.replicate g.nvars none) H (fun _ H' => Q .none H') Q NoX := by
  rw [← wpSs_eq]
  unfold Wp
  rw [call_at h ha]
  cases execSs T (callF T d) g.body (args.map some ++ List.replicate g.nvars none) H <;> rfl
/-! loops -/
theorem wps_each {i : Nat} {it : ME} {body : MSs} (h : wpE T Φ it Γ H (fun v H => getO (iterOf v H) fun p => WpS (eachL (chk p.2 p.1) (bind1 i) (execSs T Φ body) p.1 Γ H) QS R ES) (fun c H => ES c Γ H)) : wpS T Φ (.each i it body) Γ H QS R ES := by
  rw [← wpE_eq] at h
  rw [← wpS_eq]
  refine ((wps_bnd _ _ _).trans ?_).mpr h
  simp only [wps_bnd, wp_look]
/- a loop over a list, with an invariant over what is done and what is still to do -/
theorem wps_eachL {chk : Hp → Bool} {bind : Val → Env' → Option Env'} {body : MSs} (I : List Val → Env' → Hp → Prop) :
    ∀ (xs : List Val) (Γ : Env') (H : Hp), I xs Γ H → (∀ Γ H, I [] Γ H → QS Γ H) → (∀ ys Γ H, I ys Γ H → chk H = true) →
    (∀ x ys Γ H, I (x :: ys) Γ H → ∃ Γ', bind x Γ = some Γ' ∧ wpSs T Φ body Γ' H (I ys) R NoX) → WpS (eachL chk bind (execSs T Φ body) xs Γ H) QS R ES
  | [], Γ, H, h, hd, hc, _ => by
    rw [eachL, if_pos (hc _ _ _ h)]; exact hd _ _ h
  | x :: xs, Γ, H, h, hd, hc, hs => by
    rw [eachL, if_pos (hc _ _ _ h)]
    obtain ⟨Γ', e, w⟩ := hs _ _ _ _ h
    rw [e]
    rw [← wpSs_eq] at w
    dsimp only
    cases hb : execSs T Φ body Γ' H with
    | exc c Γ2 H2 => rw [hb] at w; exact w.elim
    | bad => rw [hb] at w; exact w.elim
    | ret v H2 => rw [hb] at w; exact w
    | next Γ2 H2 => rw [hb] at w; exact wps_eachL I xs Γ2 H2 w hd hc hs
/- by count: what is done is the first k -/
theorem wps_eachN {chk : Hp → Bool} {bind : Val → Env' → Option Env'} {body : MSs} {xs : List Val} (I : Nat → Env' → Hp → Prop)
    (h0 : I 0 Γ H) (hd : ∀ Γ H, I xs.length Γ H → QS Γ H) (hc : ∀ k Γ H, k ≤ xs.length → I k Γ H → chk H = true)
    (hs : ∀ k x Γ H, xs[k]? = some x → I k Γ H → ∃ Γ', bind x Γ = some Γ' ∧ wpSs T Φ body Γ' H (I (k + 1)) R NoX) : WpS (eachL chk bind (execSs T Φ body) xs Γ H) QS R ES := by
  refine wps_eachL (fun ys Γ H => ∃ k, ys = xs.drop k ∧ k ≤ xs.length ∧ I k Γ H) xs Γ H ⟨0, rfl, Nat.zero_le _, h0⟩ ?_ ?_ ?_
  · rintro Γ H ⟨k, e, l, h⟩
    have : k = xs.length := by
      have := congrArg List.length e
      simp at this; omega
    subst this; exact hd _ _ h
  · rintro ys Γ H ⟨k, e, l, h⟩
    exact hc k Γ H l h
  · rintro x ys Γ H ⟨k, e, l, h⟩
    have hx : xs[k]? = some x := by
      have := congrArg (fun z => z[0]?) e
      simpa using this.symm
    have lt := (List.getElem?_eq_some_iff.mp hx).1
    obtain ⟨Γ', hb, w⟩ := hs k x Γ H hx h
    refine ⟨Γ', hb, wpSs_mono w ?_ (fun _ _ h => h) (fun _ _ _ h => h)⟩
    intro Γ H h
    refine ⟨k + 1, ?_, lt, h⟩
    have := congrArg List.tail e
    simpa using this
/- a comprehension, with an invariant over what is done and what has come out -/
theorem wp_compL {chk : Hp → Bool} {step : Val → M (Option Val)} {Q : List Val → Hp → Prop} (I : List Val → List Val → Hp → Prop) :
    ∀ (xs : List Val) (out : List Val) (H : Hp), I xs out H → (∀ ys out H, I ys out H → chk H = true) →
    (∀ x ys out H, I (x :: ys) out H → Wp (step x) H (fun r H => I ys (out ++ r.toList) H) E) →
    (∀ zs H, I [] (out ++ zs) H → Q zs H) → Wp (compL chk step xs) H Q E
  | [], out, H, h, hc, _, hd => by
    have : compL chk step [] H = .ok [] H := by
      show (if chk H = true then _ else _) = _
      exact if_pos (hc _ _ _ h)
    exact Wp.of_eq this (hd [] H (by simpa using h))
  | x :: xs, out, H, h, hc, hs, hd => by
    have : compL chk step (x :: xs) H = ((step x).bnd fun r => (compL chk step xs).bnd fun ys => .ret (match r with | some y => y :: ys | none => ys)) H := by
      show (if chk H = true then _ else _) = _
      exact if_pos (hc _ _ _ h)
    unfold Wp; rw [this]
    show Wp _ H Q E
    rw [wp_bnd]
    refine (hs _ _ _ _ h).mono ?_ (fun _ _ h => h)
    intro r H h
    rw [wp_bnd]
    simp only [wp_ret]
    refine wp_compL I xs _ H h hc hs ?_
    intro zs H h
    refine hd _ H ?_
    cases r with
    | none => simpa using h
    | some y => simpa using h
theorem wp_quiet {Q : α → Hp → Prop} {m : M α} (h : Wp m H Q NoE) : Wp (M.quiet m) H Q E := by
  unfold Wp at h ⊢
  unfold M.quiet
  cases hm : m H with
  | ok a H' => rw [hm] at h; exact h
  | exc c H' => rw [hm] at h; exact h.elim
  | bad => rw [hm] at h; exact h.elim
/- a comprehension -/
theorem wp_comp {elt it : ME} {cond : MEo} (h : wpE T Φ it Γ H (fun v H => getO (iterOf v H) fun p =>
    Wp (compL (chk p.2 p.1) (fun x => (evalC T Φ cond (Γ ++ [some x])).bnd fun b => match b with
        | true => (evalE T Φ elt (Γ ++ [some x])).bnd fun y => .ret (some y)
        | false => .ret none) p.1) H (fun ys H => ys.length < lid ∧ Q (.loc H.length) (H ++ [.list ys])) NoE) E) : wpE T Φ (.comp elt it cond) Γ H Q E := by
  rw [← wpE_eq] at h ⊢
  refine (wp_bnd _ _).mpr (h.mono ?_ (fun _ _ h => h))
  intro v H h
  rw [wp_bnd, wp_look]
  cases hp : iterOf v H with
  | none => rw [hp] at h; exact h
  | some p =>
  rw [hp] at h
  show Wp _ _ _ _
  rw [wp_bnd]
  refine wp_quiet (Wp.mono h ?_ (fun _ _ h => h))
  rintro ys H ⟨hl, q⟩
  rw [if_pos hl]; exact q
/- one item of a comprehension -/
theorem wp_step0 {elt : ME} {Q : Option Val → Hp → Prop} (h : wpE T Φ elt Γ H (fun y H => Q (some y) H) E) :
    Wp ((evalC T Φ .none Γ).bnd fun b => match b with
        | true => (evalE T Φ elt Γ).bnd fun y => M.ret (some y)
        | false => .ret none) H Q E := by
  rw [← wpE_eq] at h
  exact (wp_bnd _ _).mpr (show Wp _ H Q E from (wp_bnd _ _).mpr h)
theorem wp_step {elt c : ME} {Q : Option Val → Hp → Prop} (h : wpE T Φ c Γ H (fun v H => asBool v fun b => brB b (wpE T Φ elt Γ H (fun y H => Q (some y) H) E) (Q none H)) E) :
    Wp ((evalC T Φ (.some c) Γ).bnd fun b => match b with
        | true => (evalE T Φ elt Γ).bnd fun y => M.ret (some y)
        | false => .ret none) H Q E := by
  simp only [← wpE_eq] at h
  rw [wp_bnd]
  refine (wp_bnd _ _).mpr (h.mono ?_ (fun _ _ h => h))
  intro v H h
  rw [wp_truth]
  cases v with
  | bool b =>
    cases b with
    | true => exact (wp_bnd _ _).mpr h
    | false => exact h
  | _ => exact h
end
end Mine.Pure

-- part LV
namespace Mine.Pure
open PySem
section
variable {T : Tab} {Φ : Funs} {Γ : Env'} {H : Hp}
variable {Q : Val → Hp → Prop} {E : Nat → Hp → Prop}
/-! ## numbers -/
theorem wv_add (x y : Int) : wpBin .add (.int x) (.int y) H Q E = Q (.int (x + y)) H := rfl
theorem wv_sub (x y : Int) : wpBin .sub (.int x) (.int y) H Q E = Q (.int (x - y)) H := rfl
theorem wv_mul (x y : Int) : wpBin .mul (.int x) (.int y) H Q E = ((small x || small y) = true ∧ Q (.int (x * y)) H) := rfl
theorem wv_fdiv (x y : Int) : wpBin .fdiv (.int x) (.int y) H Q E = (¬ (y = 0 ∨ 1073741824 ≤ y.natAbs) ∧ Q (.int (Int.fdiv x y)) H) := rfl
theorem wv_mod (x y : Int) : wpBin .mod (.int x) (.int y) H Q E = (¬ (y = 0) ∧ Q (.int (Int.fmod x y)) H) := rfl
theorem wv_range (n : Int) : Wp (bfV .range [.int n]) H Q E = ((-1073741824 ≤ n ∧ n ≤ 1073741824) ∧ Q (.rng n) H) := wv_ite _ _
theorem wv_len_script (ns : List Int) : Wp (bfV .len [.script ns]) H Q E = Q (.int ns.length) H := by rw [bf_len_script, wp_ret]
theorem wv_len_tup (xs : List Val) : Wp (bfV .len [.tup xs]) H Q E = Q (.int xs.length) H := rfl
theorem wv_len_loc {l : Nat} {xs : List Val} (h : H[l]? = some (.list xs)) : Wp (bfV .len [.loc l]) H Q E = Q (.int xs.length) H := by
  unfold Wp; rw [bf_len_loc h]
theorem wv_max2 (a b : Int) : Wp (bfV .max2 [.int a, .int b]) H Q E = Q (.int (if b > a then b else a)) H := rfl
/-! ## comparisons -/
theorem data_int (n : Nat) (i : Int) : dataOf H n (.int i) = some (.int i) := by cases n <;> rfl
theorem data_none (n : Nat) : dataOf H n .none = some .none := by cases n <;> rfl
theorem go_eq (x y : Int) (k : Bool → Prop) : getO (cmpV .eq (.int x) (.int y) H) k = k (decide (x = y)) := rfl
theorem go_ne (x y : Int) (k : Bool → Prop) : getO (cmpV .ne (.int x) (.int y) H) k = k (!decide (x = y)) := rfl
theorem go_neB (x y : Bool) (k : Bool → Prop) : getO (cmpV .ne (.bool x) (.bool y) H) k = k (!decide (x = y)) := rfl
theorem go_isNotB (x y : Bool) (k : Bool → Prop) : getO (cmpV .isNot (.bool x) (.bool y) H) k = k (!decide (x = y)) := rfl
theorem go_isB (x y : Bool) (k : Bool → Prop) : getO (cmpV .is (.bool x) (.bool y) H) k = k (decide (x = y)) := rfl
theorem go_lt (x y : Int) (k : Bool → Prop) : getO (cmpV .lt (.int x) (.int y) H) k = k (decide (x < y)) := rfl
theorem go_gt (x y : Int) (k : Bool → Prop) : getO (cmpV .gt (.int x) (.int y) H) k = k (decide (y < x)) := rfl
theorem go_le (x y : Int) (k : Bool → Prop) : getO (cmpV .le (.int x) (.int y) H) k = k (decide (x ≤ y)) := rfl
theorem go_isNone_none (k : Bool → Prop) : getO (cmpV .is .none .none H) k = k true := rfl
theorem go_isNone_int (i : Int) (k : Bool → Prop) : getO (cmpV .is (.int i) .none H) k = k false := rfl
theorem go_isNotNone_none (k : Bool → Prop) : getO (cmpV .isNot .none .none H) k = k false := rfl
theorem go_isNotNone_int (i : Int) (k : Bool → Prop) : getO (cmpV .isNot (.int i) .none H) k = k true := rfl
/-! ## kinds -/
theorem wi_kd (v : Val) (t : Ty) (k : Kd) (h : kdOf H v = some k) (ht : ∀ c, t ≠ .cls c) : Wp (isinstV T v t) H Q E = Q (.bool (isKd t k)) H := by
  have e : isinstV T v t H = .ok (.bool (isKd t k)) H := by
    unfold isinstV; rw [look_at]
    cases t with
    | cls c => exact absurd rfl (ht c)
    | _ => simp only [h, Option.map_some]
  unfold Wp; rw [e]
theorem wi_int_int (i : Int) : Wp (isinstV T (.int i) .int) H Q E = Q (.bool true) H := rfl
theorem wi_int_bool (i : Int) : Wp (isinstV T (.int i) .bool) H Q E = Q (.bool false) H := rfl
theorem wi_int_tup (i : Int) : Wp (isinstV T (.int i) .tuple) H Q E = Q (.bool false) H := rfl
theorem wi_int_list (i : Int) : Wp (isinstV T (.int i) .list) H Q E = Q (.bool false) H := rfl
theorem wi_bool_int (i : Bool) : Wp (isinstV T (.bool i) .int) H Q E = Q (.bool true) H := rfl
theorem wi_bool_bool (i : Bool) : Wp (isinstV T (.bool i) .bool) H Q E = Q (.bool true) H := rfl
theorem wi_bool_tup (i : Bool) : Wp (isinstV T (.bool i) .tuple) H Q E = Q (.bool false) H := rfl
theorem wi_none_tup : Wp (isinstV T .none .tuple) H Q E = Q (.bool false) H := rfl
theorem wi_none_int : Wp (isinstV T .none .int) H Q E = Q (.bool false) H := rfl
theorem wi_str_tup (s : Str) : Wp (isinstV T (.str s) .tuple) H Q E = Q (.bool false) H := rfl
theorem wi_str_int (s : Str) : Wp (isinstV T (.str s) .int) H Q E = Q (.bool false) H := rfl
theorem wi_tup_tup (xs : List Val) : Wp (isinstV T (.tup xs) .tuple) H Q E = Q (.bool true) H := rfl
theorem wi_tup_int (xs : List Val) : Wp (isinstV T (.tup xs) .int) H Q E = Q (.bool false) H := rfl
theorem wi_list (l : Nat) (xs : List Val) (h : H[l]? = some (.list xs)) : Wp (isinstV T (.loc l) .list) H Q E = Q (.bool true) H :=
  wi_kd _ _ .list (by simp only [kdOf, h]) (by intro c h; cases h)
/-! ## items -/
theorem ws_tup0 (x : Val) (xs : List Val) : Wp (subV (.tup (x :: xs)) (.int 0)) H Q E = Q x H := rfl
theorem ws_tup1 (x y : Val) (xs : List Val) : Wp (subV (.tup (x :: y :: xs)) (.int 1)) H Q E = Q y H := rfl
theorem ws_tup2 (x y z : Val) (xs : List Val) : Wp (subV (.tup (x :: y :: z :: xs)) (.int 2)) H Q E = Q z H := rfl
theorem place_nat (k n : Nat) (h : k < n) : placeOf (k : Int) n = some k := by
  unfold placeOf
  rw [if_pos (by omega), if_pos (by omega)]; rfl
theorem place_int (k : Int) (n : Nat) (h0 : 0 ≤ k) (h : k < n) : placeOf k n = some k.toNat := by
  unfold placeOf
  rw [if_pos h0, if_pos h]
theorem ws_list {l : Nat} {xs : List Val} (h : H[l]? = some (.list xs)) {k : Int} {v : Val} (h0 : 0 ≤ k) (hk : xs[k.toNat]? = some v) (q : Q v H) : Wp (subV (.loc l) (.int k)) H Q E := by
  have lt := (List.getElem?_eq_some_iff.mp hk).1
  refine Wp.of_eq ?_ q
  unfold subV; rw [look_at]
  simp only [h, place_int k xs.length h0 (by omega), Option.bind_some, hk]
/-! ## lists -/
theorem fits_append {l : Nat} {xs : List Val} (h : H[l]? = some (.list xs)) : bmFits .append (.loc l) H = some () := by
  unfold bmFits; simp only [h]
theorem fits_pop {l : Nat} {xs : List Val} (h : H[l]? = some (.list xs)) : bmFits .pop (.loc l) H = some () := by
  unfold bmFits; simp only [h]
theorem wm_append {l : Nat} {xs : List Val} {v : Val} (h : H[l]? = some (.list xs)) (hl : xs.length < lid) (q : Q .none (H.set l (.list (xs ++ [v])))) : Wp (bmV .append (.loc l) [v]) H Q E := by
  refine Wp.of_eq ?_ q
  unfold bmV; simp only [h]
  exact if_pos hl
theorem wm_pop {l : Nat} {xs : List Val} {v : Val} (h : H[l]? = some (.list xs)) (hv : xs.getLast? = some v) (q : Q v (H.set l (.list xs.dropLast))) : Wp (bmV .pop (.loc l) []) H Q E := by
  refine Wp.of_eq ?_ q
  unfold bmV; simp only [h, hv]
/- `x.append(e)` as a statement's expression -/
theorem wp_appendE {i : Nat} {e : ME} {l : Nat} {xs : List Val} (hi : Γ[i]? = some (some (.loc l))) (h : H[l]? = some (.list xs))
    (q : wpE T Φ e Γ H (fun v H' => ∃ ys, H'[l]? = some (.list ys) ∧ ys.length < lid ∧ Q .none (H'.set l (.list (ys ++ [v])))) E) : wpE T Φ (.bm (.var i) .append (.cons e .nil)) Γ H Q E := by
  rw [wp_bm, wp_var]
  rw [getV_get, hi]
  show getO (bmFits _ _ _) _
  rw [fits_append h]
  show wpEs _ _ _ _ _ _ _
  rw [wp_cons]
  refine wpE_mono q ?_ (fun _ _ h => h)
  rintro v H' ⟨ys, hy, hl, q⟩
  rw [wp_nil]
  exact wm_append hy hl q
end
end Mine.Pure

-- part LX
namespace Mine.Pure
open PySem
/-! ## a heap that has grown -/
noncomputable def Ext (H H' : Hp) : Prop := ∃ K, H' = H ++ K
theorem Ext.refl (H : Hp) : Ext H H := ⟨[], by simp⟩
theorem Ext.trans {H H1 H2 : Hp} : Ext H H1 → Ext H1 H2 → Ext H H2
  | ⟨K, e⟩, ⟨L, f⟩ => ⟨K ++ L, by rw [f, e, List.append_assoc]⟩
theorem Ext.new {H H' : Hp} (h : Ext H H') (o : HObj) : Ext H (H' ++ [o]) := h.trans ⟨[o], rfl⟩
theorem Ext.get {H H' : Hp} (h : Ext H H') {l : Nat} {o : HObj} (g : H[l]? = some o) : H'[l]? = some o := by
  obtain ⟨K, rfl⟩ := h
  rw [List.getElem?_append_left (List.getElem?_eq_some_iff.mp g).1]; exact g
theorem Ext.len {H H' : Hp} (h : Ext H H') : H.length ≤ H'.length := by
  obtain ⟨K, rfl⟩ := h; simp
theorem Ext.set {H H' : Hp} (h : Ext H H') {l : Nat} (hl : H.length ≤ l) (o : HObj) : Ext H (H'.set l o) := by
  obtain ⟨K, rfl⟩ := h
  exact ⟨K.set (l - H.length) o, by rw [List.set_append_right _ _ hl]⟩
theorem get_new (H : Hp) (o : HObj) : (H ++ [o])[H.length]? = some o := by simp
theorem lt_of_get {H : Hp} {l : Nat} {o : HObj} (g : H[l]? = some o) : l < H.length := (List.getElem?_eq_some_iff.mp g).1
theorem get_set {H : Hp} {l : Nat} {o : HObj} (o' : HObj) (g : H[l]? = some o) : (H.set l o')[l]? = some o' := by
  rw [List.getElem?_set_self (lt_of_get g)]
theorem get_other {H : Hp} {l m : Nat} {o : HObj} (o' : HObj) (hne : l ≠ m) (g : H[m]? = some o) : (H.set l o')[m]? = some o := by
  rw [List.getElem?_set_ne hne]; exact g
theorem chk_list {H : Hp} {l : Nat} {xs : List Val} (h : H[l]? = some (.list xs)) : chk (some l) xs H = true := by
  simp only [chk, h]; exact sames_refl xs
theorem iter_list {H : Hp} {l : Nat} {xs : List Val} (h : H[l]? = some (.list xs)) : iterOf (.loc l) H = some (xs, some l) := by
  simp only [iterOf, h]
noncomputable def rngL (n : Int) : List Val := (List.range n.toNat).map (fun (k : Nat) => .int (k : Int))
theorem rngL_get {n : Int} {k : Nat} {x : Val} (h : (rngL n)[k]? = some x) : x = .int k ∧ (k : Int) < n := by
  unfold rngL at h
  rw [List.getElem?_map] at h
  cases e : (List.range n.toNat)[k]? with
  | none => rw [e] at h; cases h
  | some j =>
    rw [e] at h
    obtain ⟨lt, g⟩ := List.getElem?_eq_some_iff.mp e
    simp at g lt h
    subst g
    exact ⟨h.symm, by omega⟩
theorem rngL_len (n : Int) : (rngL n).length = n.toNat := by simp [rngL]
section
variable {T : Tab} {Φ : Funs} {Γ : Env'} {H : Hp} {QS : Env' → Hp → Prop} {R : Val → Hp → Prop} {ES : Nat → Env' → Hp → Prop}
theorem wps_seq {s : MS} {ss : MSs} (P : Env' → Hp → Prop) (h : wpS T Φ s Γ H P R ES) (q : ∀ Γ H, P Γ H → wpSs T Φ ss Γ H QS R ES) : wpSs T Φ (.cons s ss) Γ H QS R ES := by
  rw [wps_cons]; exact wpS_mono h q (fun _ _ h => h) (fun _ _ _ h => h)
theorem wps_asg {i : Nat} {e : ME} {ss : MSs} (P : Val → Hp → Prop) (h : wpE T Φ e Γ H P NoE) (q : ∀ v H, P v H → wpSs T Φ ss (Γ.set i (some v)) H QS R ES) : wpSs T Φ (.cons (.assign i e) ss) Γ H QS R ES := by
  rw [wps_cons, wps_assign]; exact wpE_then h q
theorem wps_ex {e : ME} {ss : MSs} (P : Hp → Prop) (h : wpE T Φ e Γ H (fun _ H => P H) NoE) (q : ∀ H, P H → wpSs T Φ ss Γ H QS R ES) : wpSs T Φ (.cons (.expr e) ss) Γ H QS R ES := by
  rw [wps_cons, wps_expr]; exact wpE_then h (fun _ => q)
/- an `if` whose condition fails -/
theorem wps_no {c : ME} {t ss : MSs} (P : Hp → Prop) (h : wpE T Φ c Γ H (fun v H => v = .bool false ∧ P H) NoE) (q : ∀ H, P H → wpSs T Φ ss Γ H QS R ES) : wpSs T Φ (.cons (.ite c t .nil) ss) Γ H QS R ES := by
  rw [wps_cons, wps_ite]
  refine wpE_then h ?_
  rintro v H ⟨rfl, p⟩
  exact q H p
/- an `if` whose condition holds, and that ends the run -/
theorem wps_yes {c : ME} {t f ss : MSs} (P : Hp → Prop) (h : wpE T Φ c Γ H (fun v H => v = .bool true ∧ P H) NoE) (q : ∀ H, P H → wpSs T Φ t Γ H (fun Γ H => wpSs T Φ ss Γ H QS R ES) R ES) : wpSs T Φ (.cons (.ite c t f) ss) Γ H QS R ES := by
  rw [wps_cons, wps_ite]
  refine wpE_then h ?_
  rintro v H ⟨rfl, p⟩
  exact q H p
/- `for i in range(e)` -/
theorem wps_eachR {i : Nat} {e : ME} {body : MSs} {n : Int} (I : Nat → Env' → Hp → Prop)
    (he : wpE T Φ e Γ H (fun v H' => v = .int n ∧ H' = H) NoE) (hn : -1073741824 ≤ n ∧ n ≤ 1073741824) (h0 : I 0 Γ H)
    (hs : ∀ (k : Nat) Γ H, (k : Int) < n → I k Γ H → wpSs T Φ body (Γ.set i (some (.int k))) H (I (k + 1)) R NoX)
    (hd : ∀ Γ H, I n.toNat Γ H → QS Γ H) : wpS T Φ (.each i (.bf .range (.cons e .nil)) body) Γ H QS R ES := by
  apply wps_each
  rw [wp_bf, wp_cons]
  refine wpE_then he ?_
  rintro v H' ⟨rfl, rfl⟩
  rw [wp_nil, wv_range]
  refine ⟨hn, ?_⟩
  show WpS (eachL (chk none (rngL n)) _ _ (rngL n) _ _) _ _ _
  refine wps_eachN I h0 ?_ (fun _ _ _ _ _ => rfl) ?_
  · rw [rngL_len]; exact hd
  · intro k x Γ H hx hi
    obtain ⟨rfl, lt⟩ := rngL_get hx
    exact ⟨_, rfl, hs k Γ H lt hi⟩
end
end Mine.Pure

-- part PH
namespace Mine.Pile
/-! ## a pile: a list in which no one lies below its parent -/
section
variable {α : Type}
structure Ord (lt : α → α → Bool) : Prop where
  asym : ∀ a b, lt a b = true → lt b a = false
  tr : ∀ a b c, lt b a = false → lt c b = false → lt c a = false
variable {lt : α → α → Bool}
theorem Ord.irr (o : Ord lt) (a : α) : lt a a = false := by
  cases h : lt a a with
  | false => rfl
  | true => have := o.asym a a h; rw [h] at this; cases this
noncomputable def par (i : Nat) : Nat := (i - 1) / 2
theorem par_lt {i : Nat} (h : 0 < i) : par i < i := by unfold par; omega
noncomputable def okAt (lt : α → α → Bool) (h : List α) (i : Nat) : Prop := ∀ x y, h[i]? = some x → h[par i]? = some y → lt x y = false
noncomputable def IsPile (lt : α → α → Bool) (h : List α) : Prop := ∀ i, 0 < i → okAt lt h i
noncomputable def swap (h : List α) (i j : Nat) (a b : α) : List α := (h.set i b).set j a
theorem swap_len (h : List α) (i j : Nat) (a b : α) : (swap h i j a b).length = h.length := by simp [swap]
theorem swap_get {h : List α} {i j : Nat} {a b : α} (hi : h[i]? = some a) (hj : h[j]? = some b) (k : Nat) : (swap h i j a b)[k]? = if k = j then some a else if k = i then some b else h[k]? := by
  have li := (List.getElem?_eq_some_iff.mp hi).1
  have lj := (List.getElem?_eq_some_iff.mp hj).1
  unfold swap
  by_cases e : k = j
  · subst e; rw [List.getElem?_set_self (by simpa using lj), if_pos rfl]
  · rw [List.getElem?_set_ne (fun q => e q.symm), if_neg e]
    by_cases e2 : k = i
    · subst e2; rw [List.getElem?_set_self li, if_pos rfl]
    · rw [List.getElem?_set_ne (fun q => e2 q.symm), if_neg e2]
theorem swap_perm {h : List α} {i j : Nat} {a b : α} (hi : h[i]? = some a) (hj : h[j]? = some b) : (swap h i j a b).Perm h := by
  obtain ⟨li, rfl⟩ := List.getElem?_eq_some_iff.mp hi
  obtain ⟨lj, rfl⟩ := List.getElem?_eq_some_iff.mp hj
  exact List.set_set_perm li lj
/-! ### upwards -/
structure Up (lt : α → α → Bool) (h : List α) (at' : Nat) : Prop where
  rest : ∀ i, 0 < i → i ≠ at' → okAt lt h i
  over : 0 < at' → ∀ c, 0 < c → par c = at' → ∀ x y, h[c]? = some x → h[par at']? = some y → lt x y = false
theorem Up.done {h : List α} {k : Nat} (u : Up lt h k) (e : k = 0 ∨ okAt lt h k) : IsPile lt h := by
  intro i hi
  by_cases q : i = k
  · subst q; rcases e with e | e
    · omega
    · exact e
  · exact u.rest i hi q
theorem Up.put {h : List α} (p : IsPile lt h) (v : α) : Up lt (h ++ [v]) h.length := by
  refine ⟨fun i hi ne x y hx hy => ?_, fun _ c hc e x y hx _ => ?_⟩
  · have li : i < (h ++ [v]).length := (List.getElem?_eq_some_iff.mp hx).1
    simp at li
    have := par_lt hi
    rw [List.getElem?_append_left (by omega)] at hx hy
    exact p i hi x y hx hy
  · have li : c < (h ++ [v]).length := (List.getElem?_eq_some_iff.mp hx).1
    simp at li
    have := par_lt hc
    omega
theorem Up.step (o : Ord lt) {h : List α} {k : Nat} {a b : α} (hk : 0 < k) (u : Up lt h k) (ha : h[k]? = some a) (hb : h[par k]? = some b) (l : lt a b = true) : Up lt (swap h (par k) k b a) (par k) := by
  have g := swap_get hb ha
  have pk := par_lt hk
  refine ⟨fun i hi ne x y hx hy => ?_, fun h0 c hc e x y hx hy => ?_⟩
  · rw [g] at hx hy
    by_cases q : i = k
    · subst q
      rw [if_pos rfl] at hx; cases hx
      rw [if_neg (by omega), if_pos rfl] at hy; cases hy
      exact o.asym _ _ l
    · rw [if_neg q, if_neg ne] at hx
      by_cases q1 : par i = k
      · rw [if_pos q1] at hy; cases hy
        exact u.over hk i hi q1 x b hx hb
      · rw [if_neg q1] at hy
        by_cases q2 : par i = par k
        · rw [if_pos q2] at hy; cases hy
          have := u.rest i hi q x b hx (by rw [q2]; exact hb)
          exact o.tr _ _ _ (o.asym _ _ l) this
        · rw [if_neg q2] at hy
          exact u.rest i hi q x y hx hy
  · rw [g] at hx hy
    have p2 := par_lt h0
    rw [if_neg (by omega), if_neg (by omega)] at hy
    have top := u.rest (par k) h0 (by omega) b y hb hy
    by_cases q : c = k
    · subst q
      rw [if_pos rfl] at hx; cases hx
      exact top
    · have pc := par_lt hc
      rw [if_neg q, if_neg (by omega)] at hx
      have := u.rest c hc q x b hx (by rw [e]; exact hb)
      exact o.tr _ _ _ top this
/-! ### the least -/
theorem IsPile.least (o : Ord lt) {h : List α} (p : IsPile lt h) {m : α} (hm : h[0]? = some m) : ∀ (i : Nat) (x : α), h[i]? = some x → lt x m = false := by
  intro i
  induction i using Nat.strongRecOn with
  | ind i ih =>
    intro x hx
    by_cases q : i = 0
    · subst q; rw [hm] at hx; cases hx; exact o.irr m
    · have pl := par_lt (Nat.pos_of_ne_zero q)
      have li := (List.getElem?_eq_some_iff.mp hx).1
      have hy : h[par i]? = some h[par i] := List.getElem?_eq_getElem (by omega)
      exact o.tr _ _ _ (ih _ pl _ hy) (p i (Nat.pos_of_ne_zero q) x _ hx hy)
/-! ### downwards -/
structure Down (lt : α → α → Bool) (h : List α) (at' : Nat) : Prop where
  rest : ∀ i, 0 < i → par i ≠ at' → okAt lt h i
  over : 0 < at' → ∀ c, 0 < c → par c = at' → ∀ x y, h[c]? = some x → h[par at']? = some y → lt x y = false
theorem Down.done {h : List α} {k : Nat} (u : Down lt h k) (e : ∀ c, 0 < c → par c = k → okAt lt h c) : IsPile lt h := by
  intro i hi
  by_cases q : par i = k
  · exact e i hi q
  · exact u.rest i hi q
/- the top is exchanged -/
theorem Down.top {h : List α} (p : IsPile lt h) (v : α) : Down lt (h.set 0 v) 0 := by
  refine ⟨fun i hi ne x y hx hy => ?_, fun h0 => absurd h0 (Nat.lt_irrefl _)⟩
  rw [List.getElem?_set_ne (by omega)] at hx
  rw [List.getElem?_set_ne (fun q => ne q.symm)] at hy
  exact p i hi x y hx hy
theorem Down.step (o : Ord lt) {h : List α} {k s : Nat} {a b : α} (u : Down lt h k) (hs : 0 < s) (e : par s = k) (ha : h[k]? = some a) (hb : h[s]? = some b) (l : lt b a = true)
    (other : ∀ c, 0 < c → par c = k → ∀ x, h[c]? = some x → lt x b = false) : Down lt (swap h k s a b) s := by
  have g := swap_get ha hb
  have ps := par_lt hs
  refine ⟨fun i hi ne x y hx hy => ?_, fun h0 c hc e2 x y hx hy => ?_⟩
  · rw [g] at hx hy
    rw [if_neg ne] at hy
    by_cases q : i = s
    · subst q
      rw [if_pos rfl] at hx; cases hx
      rw [if_pos e] at hy; cases hy
      exact o.asym _ _ l
    · rw [if_neg q] at hx
      by_cases q1 : i = k
      · subst q1
        rw [if_pos rfl] at hx; cases hx
        have := par_lt hi
        rw [if_neg (by omega)] at hy
        exact u.over hi s hs e b y hb hy
      · rw [if_neg q1] at hx
        by_cases q2 : par i = k
        · rw [if_pos q2] at hy; cases hy
          exact other i hi q2 x hx
        · rw [if_neg q2] at hy
          exact u.rest i hi q2 x y hx hy
  · rw [g] at hx hy
    have pc := par_lt hc
    rw [e, if_neg (by omega), if_pos rfl] at hy; cases hy
    rw [if_neg (by omega), if_neg (by omega)] at hx
    exact u.rest c hc (by omega) x b hx (by rw [e2]; exact hb)
end
end Mine.Pile

-- part GT07
namespace Mine
open PySem
/- whole -/
noncomputable def f0_07 : MFun := ⟨3, 0, (.cons (.ite (.or (.not (.isinst (.var 0) .int)) (.isinst (.var 0) .bool)) (.cons (.ret (.some (.bool false))) .nil) .nil) (.cons (.ret (.some (.cmp2 .le .le (.var 1) (.var 0) (.var 2)))) .nil))⟩
/- lies_in -/
noncomputable def f1_07 : MFun := ⟨3, 0, (.cons (.ite (.or (.not (.isinst (.var 2) .tuple)) (.cmp .ne (.bf .len (.cons (.var 2) .nil)) (.int 2))) (.cons (.ret (.some (.bool false))) .nil) .nil) (.cons (.ret (.some (.and (.call 0 (.cons (.sub (.var 2) (.int 0)) (.cons (.int 0) (.cons (.bin .sub (.var 0) (.int 1)) .nil)))) (.call 0 (.cons (.sub (.var 2) (.int 1)) (.cons (.int 0) (.cons (.bin .sub (.var 1) (.int 1)) .nil))))))) .nil))⟩
/- beside -/
noncomputable def f2_07 : MFun := ⟨3, 3, (.cons (.assign 3 (.sub (.var 2) (.int 0))) (.cons (.assign 4 (.sub (.var 2) (.int 1))) (.cons (.assign 5 (.list (.cons (.tup (.cons (.bin .sub (.var 3) (.int 1)) (.cons (.var 4) .nil))) (.cons (.tup (.cons (.var 3) (.cons (.bin .sub (.var 4) (.int 1)) .nil))) (.cons (.tup (.cons (.var 3) (.cons (.bin .add (.var 4) (.int 1)) .nil))) (.cons (.tup (.cons (.bin .add (.var 3) (.int 1)) (.cons (.var 4) .nil))) .nil)))))) (.cons (.ret (.some (.comp (.var 6) (.var 5) (.some (.call 1 (.cons (.var 0) (.cons (.var 1) (.cons (.var 6) .nil)))))))) .nil))))⟩
/- all_cells -/
noncomputable def f3_07 : MFun := ⟨2, 3, (.cons (.assign 2 (.list .nil)) (.cons (.each 3 (.bf .range (.cons (.var 0) .nil)) (.cons (.each 4 (.bf .range (.cons (.var 1) .nil)) (.cons (.expr (.bm (.var 2) .append (.cons (.tup (.cons (.var 3) (.cons (.var 4) .nil))) .nil))) .nil)) .nil)) (.cons (.ret (.some (.var 2))) .nil)))⟩
/- is_height -/
noncomputable def f4_07 : MFun := ⟨1, 0, (.cons (.ret (.some (.or (.cmp .is (.var 0) .none) (.call 0 (.cons (.var 0) (.cons (.int 0) (.cons (.glob 1) .nil))))))) .nil)⟩
/- look_at_rows -/
noncomputable def f5_07 : MFun := ⟨1, 1, (.cons (.ite (.or (.not (.isinst (.var 0) .list)) (.not (.call 0 (.cons (.bf .len (.cons (.var 0) .nil)) (.cons (.int 1) (.cons (.glob 0) .nil)))))) (.cons (.raise 1 "a list of rows is wanted") .nil) .nil) (.cons (.each 1 (.var 0) (.cons (.ite (.or (.not (.isinst (.var 1) .list)) (.not (.call 0 (.cons (.bf .len (.cons (.var 1) .nil)) (.cons (.int 1) (.cons (.glob 0) .nil)))))) (.cons (.raise 1 "a row is a list of heights") .nil) .nil) .nil)) (.cons (.each 1 (.var 0) (.cons (.ite (.cmp .ne (.bf .len (.cons (.var 1) .nil)) (.bf .len (.cons (.sub (.var 0) (.int 0)) .nil))) (.cons (.raise 1 "all rows are as long") .nil) .nil) .nil)) .nil)))⟩
/- flood -/
noncomputable def f6_07 : MFun := ⟨1, 7, (.cons (.assign 1 .dict) (.cons (.assign 2 .dict) (.cons (.assign 3 (.new 6 .nil)) (.cons (.each 4 (.umeth (.var 0) 4 .nil) (.cons (.setitem (.var 1) (.var 4) (.umeth (.var 0) 2 (.cons (.var 4) .nil))) (.cons (.setitem (.var 2) (.var 4) .none) (.cons (.expr (.umeth (.var 3) 6 (.cons (.tup (.cons (.sub (.var 1) (.var 4)) (.cons (.var 4) .nil))) .nil))) .nil)))) (.cons (.loop (.cmp .gt (.umeth (.var 3) 10 .nil) (.int 0)) (.cons (.assign 5 (.umeth (.var 3) 8 .nil)) (.cons (.ite (.cmp .eq (.sub (.var 1) (.sub (.var 5) (.int 1))) (.sub (.var 5) (.int 0))) (.cons (.each 4 (.call 2 (.cons (.attr (.var 0) 0) (.cons (.attr (.var 0) 1) (.cons (.sub (.var 5) (.int 1)) .nil)))) (.cons (.assign 6 (.umeth (.var 0) 2 (.cons (.var 4) .nil))) (.cons (.ite (.cmp .isNot (.var 6) .none) (.cons (.assign 7 (.bf .max2 (.cons (.var 6) (.cons (.sub (.var 5) (.int 0)) .nil)))) (.cons (.ite (.or (.cmp .notin (.var 4) (.var 1)) (.cmp .lt (.var 7) (.sub (.var 1) (.var 4)))) (.cons (.setitem (.var 1) (.var 4) (.var 7)) (.cons (.setitem (.var 2) (.var 4) (.sub (.var 5) (.int 1))) (.cons (.expr (.umeth (.var 3) 6 (.cons (.tup (.cons (.var 7) (.cons (.var 4) .nil))) .nil))) .nil))) .nil) .nil)) .nil) .nil))) .nil) .nil) .nil))) (.cons (.ret (.some (.tup (.cons (.var 1) (.cons (.var 2) .nil))))) .nil))))))⟩
/- levels -/
noncomputable def f7_07 : MFun := ⟨1, 1, (.cons (.assign 1 (.sub (.call 6 (.cons (.var 0) .nil)) (.int 0))) (.cons (.ret (.some (.comp (.comp (.bm (.var 1) .get (.cons (.tup (.cons (.var 2) (.cons (.var 3) .nil))) .nil)) (.bf .range (.cons (.attr (.var 0) 1) .nil)) .none) (.bf .range (.cons (.attr (.var 0) 0) .nil)) .none))) .nil))⟩
/- _law_cell_at -/
noncomputable def f8_07 : MFun := ⟨2, 0, (.cons (.ite (.cmp .lt (.var 1) (.bf .len (.cons (.var 0) .nil))) (.cons (.ret (.some (.sub (.var 0) (.var 1)))) .nil) .nil) (.cons (.ret (.some (.int 0))) .nil))⟩
/- _law_whole -/
noncomputable def f9_07 : MFun := ⟨1, 0, (.cons (.ret (.some (.and (.isinst (.var 0) .int) (.not (.isinst (.var 0) .bool))))) .nil)⟩
/- _law_size -/
noncomputable def f10_07 : MFun := ⟨1, 0, (.cons (.ite (.cmp .eq (.bin .mod (.bin .fdiv (.var 0) (.int 20)) (.int 8)) (.int 1)) (.cons (.ret (.some (.sub (.list (.cons (.tup (.cons (.int 1) (.cons (.int 30) .nil))) (.cons (.tup (.cons (.int 30) (.cons (.int 1) .nil))) (.cons (.tup (.cons (.int 5) (.cons (.int 5) .nil))) (.cons (.tup (.cons (.int 2) (.cons (.int 12) .nil))) (.cons (.tup (.cons (.int 2) (.cons (.int 30) .nil))) (.cons (.tup (.cons (.int 30) (.cons (.int 2) .nil))) (.cons (.tup (.cons (.int 6) (.cons (.int 7) .nil))) (.cons (.tup (.cons (.int 12) (.cons (.int 11) .nil))) .nil))))))))) (.bin .mod (.bin .fdiv (.var 0) (.int 160)) (.int 8))))) .nil) .nil) (.cons (.ret (.some (.tup (.cons (.bin .add (.int 1) (.bin .mod (.var 0) (.int 4))) (.cons (.bin .add (.int 1) (.bin .mod (.bin .fdiv (.var 0) (.int 4)) (.int 5))) .nil))))) .nil))⟩
/- _law_height_by -/
noncomputable def f11_07 : MFun := ⟨2, 0, (.cons (.ite (.cmp .eq (.bin .mod (.var 0) (.int 9)) (.int 8)) (.cons (.ret (.some .none)) .nil) .nil) (.cons (.ite (.cmp .eq (.var 1) (.int 0)) (.cons (.ret (.some (.bin .mod (.bin .fdiv (.var 0) (.int 9)) (.int 3)))) .nil) .nil) (.cons (.ite (.cmp .eq (.var 1) (.int 1)) (.cons (.ret (.some (.bin .mod (.bin .fdiv (.var 0) (.int 9)) (.int 12)))) .nil) .nil) (.cons (.ite (.cmp .eq (.var 1) (.int 2)) (.cons (.ret (.some (.bin .mod (.bin .fdiv (.var 0) (.int 9)) (.int 1000000001)))) .nil) .nil) (.cons (.ret (.some (.bin .sub (.int 1000000000) (.bin .mod (.bin .fdiv (.var 0) (.int 9)) (.int 2))))) .nil)))))⟩
/- _law_number -/
noncomputable def f12_07 : MFun := ⟨2, 0, (.cons (.ite (.cmp .lt (.bin .add (.var 1) (.int 3)) (.bf .len (.cons (.var 0) .nil))) (.cons (.ret (.some (.sub (.var 0) (.bin .add (.var 1) (.int 3))))) .nil) .nil) (.cons (.ret (.some (.bin .add (.bin .add (.bin .mul (.int 7) (.call 8 (.cons (.var 0) (.cons (.int 1) .nil)))) (.bin .mul (.bin .mul (.call 8 (.cons (.var 0) (.cons (.int 2) .nil))) (.var 1)) (.var 1))) (.bin .mul (.int 13) (.var 1))))) .nil))⟩
/- _law_grid -/
noncomputable def f13_07 : MFun := ⟨1, 5, (.cons (.assign 1 (.call 10 (.cons (.call 8 (.cons (.var 0) (.cons (.int 0) .nil))) .nil))) (.cons (.ite (.and (.cmp .eq (.var 1) (.tup (.cons (.int 12) (.cons (.int 11) .nil)))) (.cmp .gt (.bf .len (.cons (.var 0) .nil)) (.int 63))) (.cons (.assign 1 (.tup (.cons (.int 30) (.cons (.int 30) .nil)))) .nil) .nil) (.cons (.assign 2 (.bin .mod (.call 8 (.cons (.var 0) (.cons (.int 1) .nil))) (.int 4))) (.cons (.assign 3 (.list .nil)) (.cons (.each 4 (.bf .range (.cons (.sub (.var 1) (.int 0)) .nil)) (.cons (.assign 5 (.comp (.call 12 (.cons (.var 0) (.cons (.bin .add (.bin .mul (.var 4) (.sub (.var 1) (.int 1))) (.var 6)) .nil))) (.bf .range (.cons (.sub (.var 1) (.int 1)) .nil)) .none)) (.cons (.expr (.bm (.var 3) .append (.cons (.comp (.call 11 (.cons (.var 6) (.cons (.var 2) .nil))) (.var 5) .none) .nil))) .nil))) (.cons (.ret (.some (.var 3))) .nil))))))⟩
/- _law_drains -/
noncomputable def f14_07 : MFun := ⟨2, 6, (.cons (.assign 2 (.call 8 (.cons (.var 0) (.cons (.int 2) .nil)))) (.cons (.assign 3 (.sub (.list (.cons (.int 2) (.cons (.int 3) (.cons (.int 5) (.cons (.int 9) (.cons (.int 14) .nil)))))) (.bin .mod (.bin .fdiv (.var 2) (.int 60)) (.int 5)))) (.cons (.assign 4 (.list .nil)) (.cons (.each 5 (.bf .range (.cons (.bf .len (.cons (.var 1) .nil)) .nil)) (.cons (.each 6 (.bf .range (.cons (.bf .len (.cons (.sub (.var 1) (.int 0)) .nil)) .nil)) (.cons (.assign 7 (.bin .add (.bin .mul (.var 5) (.bf .len (.cons (.sub (.var 1) (.int 0)) .nil))) (.var 6))) (.cons (.ite (.and (.cmp .isNot (.sub (.sub (.var 1) (.var 5)) (.var 6)) .none) (.cmp .eq (.bin .mod (.bin .add (.var 2) (.bin .mul (.var 7) (.bin .add (.int 1) (.bin .mod (.bin .fdiv (.var 2) (.int 12)) (.int 5))))) (.var 3)) (.int 0))) (.cons (.expr (.bm (.var 4) .append (.cons (.tup (.cons (.var 5) (.cons (.var 6) .nil))) .nil))) .nil) .nil) .nil))) .nil)) (.cons (.ret (.some (.var 4))) .nil)))))⟩
/- _law_land -/
noncomputable def f15_07 : MFun := ⟨2, 2, (.cons (.assign 2 (.new 5 (.cons (.comp (.bf .list (.cons (.var 4) .nil)) (.var 0) .none) .nil))) (.cons (.each 3 (.var 1) (.cons (.expr (.umeth (.var 2) 3 (.cons (.var 3) .nil))) .nil)) (.cons (.ret (.some (.var 2))) .nil)))⟩
/- _law_beside -/
noncomputable def f16_07 : MFun := ⟨2, 1, (.cons (.assign 2 (.list .nil)) (.cons (.ite (.cmp .gt (.sub (.var 1) (.int 0)) (.int 0)) (.cons (.expr (.bm (.var 2) .append (.cons (.tup (.cons (.bin .sub (.sub (.var 1) (.int 0)) (.int 1)) (.cons (.sub (.var 1) (.int 1)) .nil))) .nil))) .nil) .nil) (.cons (.ite (.cmp .gt (.sub (.var 1) (.int 1)) (.int 0)) (.cons (.expr (.bm (.var 2) .append (.cons (.tup (.cons (.sub (.var 1) (.int 0)) (.cons (.bin .sub (.sub (.var 1) (.int 1)) (.int 1)) .nil))) .nil))) .nil) .nil) (.cons (.ite (.cmp .lt (.bin .add (.sub (.var 1) (.int 1)) (.int 1)) (.bf .len (.cons (.sub (.var 0) (.int 0)) .nil))) (.cons (.expr (.bm (.var 2) .append (.cons (.tup (.cons (.sub (.var 1) (.int 0)) (.cons (.bin .add (.sub (.var 1) (.int 1)) (.int 1)) .nil))) .nil))) .nil) .nil) (.cons (.ite (.cmp .lt (.bin .add (.sub (.var 1) (.int 0)) (.int 1)) (.bf .len (.cons (.var 0) .nil))) (.cons (.expr (.bm (.var 2) .append (.cons (.tup (.cons (.bin .add (.sub (.var 1) (.int 0)) (.int 1)) (.cons (.sub (.var 1) (.int 1)) .nil))) .nil))) .nil) .nil) (.cons (.ret (.some (.comp (.var 3) (.var 2) (.some (.cmp .isNot (.sub (.sub (.var 0) (.sub (.var 3) (.int 0))) (.sub (.var 3) (.int 1))) .none))))) .nil))))))⟩
/- _law_is_table -/
noncomputable def f17_07 : MFun := ⟨2, 2, (.cons (.ite (.or (.not (.isinst (.var 0) .list)) (.cmp .ne (.bf .len (.cons (.var 0) .nil)) (.bf .len (.cons (.var 1) .nil)))) (.cons (.ret (.some (.bool false))) .nil) .nil) (.cons (.each 2 (.var 0) (.cons (.ite (.or (.not (.isinst (.var 2) .list)) (.cmp .ne (.bf .len (.cons (.var 2) .nil)) (.bf .len (.cons (.sub (.var 1) (.int 0)) .nil)))) (.cons (.ret (.some (.bool false))) .nil) .nil) (.cons (.each 3 (.var 2) (.cons (.ite (.and (.cmp .isNot (.var 3) .none) (.not (.call 9 (.cons (.var 3) .nil)))) (.cons (.ret (.some (.bool false))) .nil) .nil) .nil)) .nil))) (.cons (.ret (.some (.bool true))) .nil)))⟩
/- _law_due -/
noncomputable def f18_07 : MFun := ⟨4, 4, (.cons (.assign 4 (.sub (.sub (.var 0) (.sub (.var 3) (.int 0))) (.sub (.var 3) (.int 1)))) (.cons (.ite (.or (.cmp .is (.var 4) .none) (.cmp .isin (.var 3) (.var 1))) (.cons (.ret (.some (.var 4))) .nil) .nil) (.cons (.assign 5 .none) (.cons (.each 6 (.call 16 (.cons (.var 0) (.cons (.var 3) .nil))) (.cons (.assign 7 (.sub (.sub (.var 2) (.sub (.var 6) (.int 0))) (.sub (.var 6) (.int 1)))) (.cons (.ite (.and (.cmp .isNot (.var 7) .none) (.or (.cmp .is (.var 5) .none) (.cmp .lt (.var 7) (.var 5)))) (.cons (.assign 5 (.var 7)) .nil) .nil) .nil))) (.cons (.ite (.cmp .is (.var 5) .none) (.cons (.ret (.some .none)) .nil) .nil) (.cons (.ret (.some (.bf .max2 (.cons (.var 4) (.cons (.var 5) .nil))))) .nil))))))⟩
/- law -/
noncomputable def f19_07 : MFun := ⟨1, 7, (.cons (.assign 1 (.call 13 (.cons (.var 0) .nil))) (.cons (.assign 2 (.call 14 (.cons (.var 0) (.cons (.var 1) .nil)))) (.cons (.assign 3 (.call 15 (.cons (.var 1) (.cons (.var 2) .nil)))) (.cons (.assign 4 (.call 7 (.cons (.var 3) .nil))) (.cons (.assign 5 (.bin .mul (.bf .len (.cons (.var 1) .nil)) (.bf .len (.cons (.sub (.var 1) (.int 0)) .nil)))) (.cons (.ite (.or (.not (.call 17 (.cons (.var 4) (.cons (.var 1) .nil)))) (.and (.cmp .lt (.var 5) (.int 200)) (.cmp .ne (.call 7 (.cons (.var 3) .nil)) (.var 4)))) (.cons (.ret (.some (.bool false))) .nil) .nil) (.cons (.each 6 (.bf .range (.cons (.bf .len (.cons (.var 1) .nil)) .nil)) (.cons (.each 7 (.bf .range (.cons (.bf .len (.cons (.sub (.var 1) (.int 0)) .nil)) .nil)) (.cons (.ite (.cmp .ne (.sub (.sub (.var 4) (.var 6)) (.var 7)) (.call 18 (.cons (.var 1) (.cons (.var 2) (.cons (.var 4) (.cons (.tup (.cons (.var 6) (.cons (.var 7) .nil))) .nil)))))) (.cons (.ret (.some (.bool false))) .nil) .nil) .nil)) .nil)) (.cons (.setitem (.sub (.var 4) (.int 0)) (.int 0) (.neg (.int 1))) (.cons (.ite (.or (.cmp .ne (.umeth (.var 3) 5 .nil) (.var 1)) (.cmp .ne (.umeth (.var 3) 4 .nil) (.var 2))) (.cons (.ret (.some (.bool false))) .nil) .nil) (.cons (.ret (.some (.or (.cmp .gt (.var 5) (.int 200)) (.cmp .ne (.sub (.sub (.call 7 (.cons (.var 3) .nil)) (.int 0)) (.int 0)) (.neg (.int 1)))))) .nil))))))))))⟩
/- Land.__init__ -/
noncomputable def f20_07 : MFun := ⟨2, 2, (.cons (.expr (.call 5 (.cons (.var 1) .nil))) (.cons (.each 2 (.var 1) (.cons (.each 3 (.var 2) (.cons (.ite (.not (.call 4 (.cons (.var 3) .nil))) (.cons (.raise 2 "a height or None is wanted") .nil) .nil) .nil)) .nil)) (.cons (.setattr (.var 0) 0 (.bf .len (.cons (.var 1) .nil))) (.cons (.setattr (.var 0) 1 (.bf .len (.cons (.sub (.var 1) (.int 0)) .nil))) (.cons (.setattr (.var 0) 2 (.comp (.bf .list (.cons (.var 4) .nil)) (.var 1) .none)) (.cons (.setattr (.var 0) 3 .dict) .nil))))))⟩
/- Land.look_at -/
noncomputable def f21_07 : MFun := ⟨2, 0, (.cons (.ite (.not (.call 1 (.cons (.attr (.var 0) 0) (.cons (.attr (.var 0) 1) (.cons (.var 1) .nil))))) (.cons (.raise 3 "no such cell") .nil) .nil) .nil)⟩
/- Land.height -/
noncomputable def f22_07 : MFun := ⟨2, 0, (.cons (.expr (.umeth (.var 0) 1 (.cons (.var 1) .nil))) (.cons (.ret (.some (.sub (.sub (.attr (.var 0) 2) (.sub (.var 1) (.int 0))) (.sub (.var 1) (.int 1))))) .nil))⟩
/- Land.opened -/
noncomputable def f23_07 : MFun := ⟨2, 0, (.cons (.expr (.umeth (.var 0) 1 (.cons (.var 1) .nil))) (.cons (.ite (.cmp .is (.sub (.sub (.attr (.var 0) 2) (.sub (.var 1) (.int 0))) (.sub (.var 1) (.int 1))) .none) (.cons (.raise 4 "stone is no drain") .nil) .nil) (.cons (.setitem (.attr (.var 0) 3) (.var 1) (.bool true)) .nil)))⟩
/- Land.drains -/
noncomputable def f24_07 : MFun := ⟨1, 0, (.cons (.ret (.some (.comp (.var 1) (.call 3 (.cons (.attr (.var 0) 0) (.cons (.attr (.var 0) 1) .nil))) (.some (.cmp .isin (.var 1) (.attr (.var 0) 3)))))) .nil)⟩
/- Land.heights -/
noncomputable def f25_07 : MFun := ⟨1, 0, (.cons (.ret (.some (.comp (.bf .list (.cons (.var 1) .nil)) (.attr (.var 0) 2) .none))) .nil)⟩
/- Pile.__init__ -/
noncomputable def f26_07 : MFun := ⟨1, 0, (.cons (.setattr (.var 0) 4 (.list .nil)) .nil)⟩
/- Pile.put -/
noncomputable def f27_07 : MFun := ⟨2, 4, (.cons (.assign 2 (.attr (.var 0) 4)) (.cons (.expr (.bm (.var 2) .append (.cons (.var 1) .nil))) (.cons (.assign 3 (.bin .sub (.bf .len (.cons (.var 2) .nil)) (.int 1))) (.cons (.loop (.and (.cmp .gt (.var 3) (.int 0)) (.cmp .lt (.sub (.var 2) (.var 3)) (.sub (.var 2) (.bin .fdiv (.bin .sub (.var 3) (.int 1)) (.int 2))))) (.cons (.assign 4 (.bin .fdiv (.bin .sub (.var 3) (.int 1)) (.int 2))) (.cons (.assign 5 (.sub (.var 2) (.var 4))) (.cons (.setitem (.var 2) (.var 4) (.sub (.var 2) (.var 3))) (.cons (.setitem (.var 2) (.var 3) (.var 5)) (.cons (.assign 3 (.var 4)) .nil)))))) .nil))))⟩
/- Pile.least -/
noncomputable def f28_07 : MFun := ⟨1, 0, (.cons (.ite (.cmp .eq (.bf .len (.cons (.attr (.var 0) 4) .nil)) (.int 0)) (.cons (.ret (.some .none)) .nil) .nil) (.cons (.ret (.some (.sub (.attr (.var 0) 4) (.int 0)))) .nil))⟩
/- Pile.take -/
noncomputable def f29_07 : MFun := ⟨1, 3, (.cons (.assign 1 (.attr (.var 0) 4)) (.cons (.ite (.cmp .eq (.bf .len (.cons (.var 1) .nil)) (.int 0)) (.cons (.ret (.some .none)) .nil) .nil) (.cons (.assign 2 (.sub (.var 1) (.int 0))) (.cons (.assign 3 (.bm (.var 1) .pop .nil)) (.cons (.ite (.cmp .gt (.bf .len (.cons (.var 1) .nil)) (.int 0)) (.cons (.setitem (.var 1) (.int 0) (.var 3)) (.cons (.expr (.umeth (.var 0) 9 .nil)) .nil)) .nil) (.cons (.ret (.some (.var 2))) .nil))))))⟩
/- Pile.sink -/
noncomputable def f30_07 : MFun := ⟨1, 6, (.cons (.assign 1 (.attr (.var 0) 4)) (.cons (.assign 2 (.int 0)) (.cons (.assign 3 (.bool true)) (.cons (.loop (.var 3) (.cons (.assign 4 (.var 2)) (.cons (.each 5 (.list (.cons (.bin .add (.bin .mul (.int 2) (.var 2)) (.int 1)) (.cons (.bin .add (.bin .mul (.int 2) (.var 2)) (.int 2)) .nil))) (.cons (.ite (.and (.cmp .lt (.var 5) (.bf .len (.cons (.var 1) .nil))) (.cmp .lt (.sub (.var 1) (.var 5)) (.sub (.var 1) (.var 4)))) (.cons (.assign 4 (.var 5)) .nil) .nil) .nil)) (.cons (.assign 3 (.cmp .ne (.var 4) (.var 2))) (.cons (.assign 6 (.sub (.var 1) (.var 2))) (.cons (.setitem (.var 1) (.var 2) (.sub (.var 1) (.var 4))) (.cons (.setitem (.var 1) (.var 4) (.var 6)) (.cons (.assign 2 (.var 4)) .nil)))))))) .nil))))⟩
/- Pile.many -/
noncomputable def f31_07 : MFun := ⟨1, 0, (.cons (.ret (.some (.bf .len (.cons (.attr (.var 0) 4) .nil)))) .nil)⟩
noncomputable def T_07 : Tab := ⟨[f0_07, f1_07, f2_07, f3_07, f4_07, f5_07, f6_07, f7_07, f8_07, f9_07, f10_07, f11_07, f12_07, f13_07, f14_07, f15_07, f16_07, f17_07, f18_07, f19_07, f20_07, f21_07, f22_07, f23_07, f24_07, f25_07, f26_07, f27_07, f28_07, f29_07, f30_07, f31_07], [[], [], [], [], [], [(0, 20), (1, 21), (2, 22), (3, 23), (4, 24), (5, 25)], [(0, 26), (6, 27), (7, 28), (8, 29), (9, 30), (10, 31)], []], [[0, 7], [1, 0, 7], [2, 0, 7], [3, 0, 7], [4, 0, 7], [5], [6], [7]], [.int 30, .int 1000000000]⟩
noncomputable def N_07 : Names := ⟨[("whole", 0), ("lies_in", 1), ("beside", 2), ("all_cells", 3), ("is_height", 4), ("look_at_rows", 5), ("flood", 6), ("levels", 7), ("_law_cell_at", 8), ("_law_whole", 9), ("_law_size", 10), ("_law_height_by", 11), ("_law_number", 12), ("_law_grid", 13), ("_law_drains", 14), ("_law_land", 15), ("_law_beside", 16), ("_law_is_table", 17), ("_law_due", 18), ("law", 19)], [("LandError", 0), ("NoLand", 1), ("NoHeight", 2), ("NoCell", 3), ("NoDrain", 4), ("Land", 5), ("Pile", 6), ("ValueError", 7)], [("MOST_SIDE", 0), ("MOST_HEIGHT", 1)], [("rows", 0), ("columns", 1), ("grid", 2), ("sinks", 3), ("heap", 4)], [("__init__", 0), ("look_at", 1), ("height", 2), ("opened", 3), ("drains", 4), ("heights", 5), ("put", 6), ("least", 7), ("take", 8), ("sink", 9), ("many", 10)]⟩
noncomputable def V_07 : List (List Str) := [["thing", "low", "high"], ["rows", "columns", "cell"], ["rows", "columns", "cell", "row", "column", "near"], ["rows", "columns", "found", "row", "column"], ["thing"], ["heights", "row"], ["land", "found", "goals", "pile", "cell", "here", "high", "level"], ["land", "found"], ["_law_script", "_law_k"], ["_law_found"], ["_law_cell"], ["_law_number_here", "_law_kind"], ["_law_script", "_law_k"], ["_law_script", "_law_size_here", "_law_kind", "_law_rows", "_law_row", "_law_numbers"], ["_law_script", "_law_rows", "_law_cell", "_law_every", "_law_found", "_law_row", "_law_column", "_law_at"], ["_law_rows", "_law_drains_here", "_law_land_here", "_law_cell"], ["_law_rows", "_law_cell", "_law_found"], ["_law_found", "_law_rows", "_law_one", "_law_level"], ["_law_rows", "_law_drains_here", "_law_found", "_law_cell", "_law_own", "_law_least", "_law_one", "_law_level"], ["_law_script", "_law_rows", "_law_drains_here", "_law_land_here", "_law_found", "_law_many", "_law_row", "_law_column"], ["self", "heights", "row", "one"], ["self", "cell"], ["self", "cell"], ["self", "cell"], ["self"], ["self"], ["self"], ["self", "value", "heap", "at", "above", "kept"], ["self"], ["self", "heap", "found", "last"], ["self", "heap", "at", "going", "small", "below", "kept"], ["self"]]
end Mine

-- part K2
namespace Mine.Pure
open PySem Pile
/-! ## the order of law 02's values -/
noncomputable def lexLt : List Int → List Int → Bool
  | [], [] => false
  | [], _ :: _ => true
  | _ :: _, [] => false
  | x :: xs, y :: ys => if x < y then true else if y < x then false else lexLt xs ys
theorem lex_asym : ∀ (a b : List Int), lexLt a b = true → lexLt b a = false
  | [], [], h => by cases h
  | [], _ :: _, _ => rfl
  | _ :: _, [], h => by cases h
  | x :: xs, y :: ys, h => by
    unfold lexLt at h ⊢
    by_cases q : x < y
    · rw [if_neg (by omega), if_pos q]
    · rw [if_neg q] at h
      by_cases q2 : y < x
      · rw [if_pos q2] at h; cases h
      · rw [if_neg q2] at h
        rw [if_neg q2, if_neg q]; exact lex_asym xs ys h
theorem lex_tr : ∀ (a b c : List Int), lexLt b a = false → lexLt c b = false → lexLt c a = false
  | [], b, c, h1, h2 => by
    cases c with
    | nil => rfl
    | cons z zs => rfl
  | x :: xs, [], c, h1, h2 => by cases h1
  | x :: xs, y :: ys, [], h1, h2 => by cases h2
  | x :: xs, y :: ys, z :: zs, h1, h2 => by
    unfold lexLt at h1 h2 ⊢
    by_cases q1 : y < x
    · rw [if_pos q1] at h1; cases h1
    · rw [if_neg q1] at h1
      by_cases q2 : z < y
      · rw [if_pos q2] at h2; cases h2
      · rw [if_neg q2] at h2
        rw [if_neg (by omega)]
        by_cases q3 : x < z
        · rw [if_pos q3]
        · rw [if_neg q3]
          rw [if_neg (by omega)] at h1 h2
          exact lex_tr xs ys zs h1 h2
noncomputable def flat : Nat → Val → List Int
  | 0, _ => []
  | n + 1, v => (match v with
    | .int i => [i]
    | .tup vs => vs.flatMap (flat n)
    | _ => [])
noncomputable def key (v : Val) : List Int := flat 3 v
noncomputable def klt (a b : Val) : Bool := lexLt (key a) (key b)
theorem klt_ord : Ord klt := ⟨fun a b => lex_asym _ _, fun a b c => lex_tr _ _ _⟩
/- the two makes of values -/
theorem eq_int (x y : Int) : pyEq [] (.int x) (.int y) = some (x == y) := rfl
theorem eq_pair (a b c e : Int) : pyEq [] (.tup [.int a, .int b]) (.tup [.int c, .int e]) = some (a == c && (b == e && true)) := rfl
theorem lt_int (n : Nat) (x y : Int) : pyLt (n + 1) (.int x) (.int y) = some (decide (x < y)) := rfl
theorem lts_cons' (e f : Val → Val → Option Bool) (x y : Val) (xs ys : List Val) : lts e f (x :: xs) (y :: ys) = (match e x y with | some true => lts e f xs ys | some false => f x y | none => none) := rfl
theorem lt_tup (n : Nat) (xs ys : List Val) : pyLt (n + 1) (.tup xs) (.tup ys) = lts (pyEq []) (pyLt n) xs ys := rfl
/- what is asked of the values of a pile -/
structure Dom (D : Val → Prop) : Prop where
  eq : ∀ (H : Hp) a b, D a → D b → pyEq H a b = some (decide (key a = key b))
  lt : ∀ a b, D a → D b → pyLt deep a b = some (klt a b)
  anti : ∀ a b, D a → D b → key a = key b → a = b
end Mine.Pure

-- part K7
namespace Mine.Pure
open PySem Pile
/-! ## the order of a flood's values: a level and a cell -/
noncomputable def DC (v : Val) : Prop := ∃ a b c, v = .tup [.int a, .tup [.int b, .int c]]
theorem key_dc (a b c : Int) : key (.tup [.int a, .tup [.int b, .int c]]) = [a, b, c] := rfl
theorem anti_DC {a b : Val} (ha : DC a) (hb : DC b) (h : key a = key b) : a = b := by
  obtain ⟨x1, x2, x3, rfl⟩ := ha
  obtain ⟨y1, y2, y3, rfl⟩ := hb
  cases (show [x1, x2, x3] = [y1, y2, y3] from h); rfl
theorem lt_DC {a b : Val} (ha : DC a) (hb : DC b) : pyLt deep a b = some (klt a b) := by
  obtain ⟨x1, x2, x3, rfl⟩ := ha
  obtain ⟨y1, y2, y3, rfl⟩ := hb
  show pyLt (5 + 1) _ _ = _
  rw [lt_tup, lts_cons', eq_int]
  show _ = some (lexLt [x1, x2, x3] [y1, y2, y3])
  by_cases q1 : x1 = y1
  · subst q1
    simp only [beq_self_eq_true]
    rw [lts_cons', eq_pair]
    by_cases q2 : x2 = y2
    · subst q2
      by_cases q3 : x3 = y3
      · subst q3
        simp only [beq_self_eq_true, Bool.and_self]
        simp [lts, lexLt]
      · have e3 : (x3 == y3) = false := by simpa using q3
        simp only [beq_self_eq_true, e3, Bool.false_and, Bool.and_false]
        show pyLt (4 + 1) _ _ = _
        rw [lt_tup, lts_cons', eq_int]
        simp only [beq_self_eq_true]
        rw [lts_cons', eq_int, e3]
        show some (decide (x3 < y3)) = _
        by_cases q5 : x3 < y3
        · simp [lexLt, q5]
        · have : y3 < x3 := by omega
          simp [lexLt, q5, this]
    · have e2 : (x2 == y2) = false := by simpa using q2
      simp only [e2, Bool.false_and]
      show pyLt (4 + 1) _ _ = _
      rw [lt_tup, lts_cons', eq_int, e2]
      show some (decide (x2 < y2)) = _
      by_cases q5 : x2 < y2
      · simp [lexLt, q5]
      · have : y2 < x2 := by omega
        simp [lexLt, q5, this]
  · have e1 : (x1 == y1) = false := by simpa using q1
    rw [e1]
    show some (decide (x1 < y1)) = _
    by_cases q5 : x1 < y1
    · simp [lexLt, q5]
    · have : y1 < x1 := by omega
      simp [lexLt, q5, this]
theorem eq_DC {H : Hp} {a b : Val} (ha : DC a) (hb : DC b) : pyEq H a b = some (decide (key a = key b)) := by
  obtain ⟨x1, x2, x3, rfl⟩ := ha
  obtain ⟨y1, y2, y3, rfl⟩ := hb
  have : pyEq H (.tup [.int x1, .tup [.int x2, .int x3]]) (.tup [.int y1, .tup [.int y2, .int y3]]) = some (x1 == y1 && ((x2 == y2 && (x3 == y3 && true)) && true)) := rfl
  rw [this]
  congr 1
  rw [Bool.eq_iff_iff, key_dc, key_dc]; simp [and_assoc]
theorem dom_cell : Dom DC := ⟨fun _ _ _ => eq_DC, fun _ _ => lt_DC, fun _ _ => anti_DC⟩
end Mine.Pure

-- part L7P
namespace Mine.Pure
open PySem Pile
section
variable {T : Tab} {Φ : Funs} {Γ : Env'} {H : Hp} {Q : Val → Hp → Prop} {E : Nat → Hp → Prop} {QS : Env' → Hp → Prop} {R : Val → Hp → Prop} {ES : Nat → Env' → Hp → Prop}
theorem wa_attr {i c n : Nat} {fs : List (Nat × Val)} {v : Val} (h : H[i]? = some (.inst c fs)) (hf : fs.lookup n = some v) : Wp (attrV (.loc i) n) H Q E = Q v H := by
  have : attrV (.loc i) n H = .ok v H := by
    unfold attrV; rw [look_at]; simp only [h, hf]
  unfold Wp; rw [this]
theorem wa_setitem {l : Nat} {xs : List Val} {k : Int} {v : Val} {Q : Unit → Hp → Prop} (h : H[l]? = some (.list xs)) (h0 : 0 ≤ k) (h1 : k < xs.length) : Wp (setitemV (.loc l) (.int k) v) H Q E = Q () (H.set l (.list (xs.set k.toNat v))) := by
  have : setitemV (.loc l) (.int k) v H = .ok () (H.set l (.list (xs.set k.toNat v))) := by
    unfold setitemV; simp only [h]; exact if_pos ⟨h0, h1⟩
  unfold Wp; rw [this]
theorem ws_eq {l : Nat} {xs : List Val} (h : H[l]? = some (.list xs)) {k : Int} {v : Val} (h0 : 0 ≤ k) (hk : xs[k.toNat]? = some v) : Wp (subV (.loc l) (.int k)) H Q E = Q v H := by
  have lt := (List.getElem?_eq_some_iff.mp hk).1
  have : subV (.loc l) (.int k) H = .ok v H := by
    unfold subV; rw [look_at]
    simp only [h, place_int k xs.length h0 (by omega), Option.bind_some, hk]
  unfold Wp; rw [this]
/- a while loop, with a number that falls -/
theorem wps_loop {c : ME} {body : MSs} (I : Nat → Env' → Hp → Prop) {n : Nat} (hn : n < turns) (h : I n Γ H)
    (step : ∀ n Γ H, I n Γ H → wpE T Φ c Γ H (fun v H' => asBool v fun b => brB b (wpSs T Φ body Γ H' (fun Γ' H'' => ∃ m, m < n ∧ I m Γ' H'') R NoX) (QS Γ H')) NoE) : wpS T Φ (.loop c body) Γ H QS R ES := by
  have main : ∀ (f n : Nat) (Γ : Env') (H : Hp), n < f → I n Γ H → WpS (whileL (fun Γ => (evalE T Φ c Γ).bnd truth) (execSs T Φ body) f Γ H) QS R ES := by
    intro f
    induction f with
    | zero => intro n Γ H l; omega
    | succ f ih =>
      intro n Γ H l hI
      have w := step n Γ H hI
      rw [← wpE_eq] at w
      have w' : Wp ((evalE T Φ c Γ).bnd truth) H (fun b H' => brB b (wpSs T Φ body Γ H' (fun Γ' H'' => ∃ m, m < n ∧ I m Γ' H'') R NoX) (QS Γ H')) NoE := by
        rw [wp_bnd]; simp only [wp_truth]; exact w
      obtain ⟨b, H', e, q⟩ := w'.get
      unfold whileL
      rw [e]
      cases b with
      | false => exact q
      | true =>
        dsimp only
        have q' : wpSs T Φ body Γ H' (fun Γ' H'' => ∃ m, m < n ∧ I m Γ' H'') R NoX := q
        rw [← wpSs_eq] at q'
        cases hb : execSs T Φ body Γ H' with
        | bad => rw [hb] at q'; exact q'.elim
        | exc c' Γ2 H2 => rw [hb] at q'; exact q'.elim
        | ret v H2 => rw [hb] at q'; exact q'
        | next Γ2 H2 =>
          rw [hb] at q'
          obtain ⟨m, lm, hm⟩ := q'
          exact ih m Γ2 H2 (by omega) hm
  exact main turns n Γ H hn h
end
theorem getV_of {Γ : Env'} {i : Nat} {v : Val} {k : Val → Prop} (h : Γ[i]? = some (some v)) : getV Γ i k = k v := by rw [getV_get, h]; rfl
theorem fdiv2 (k : Nat) (h : 0 < k) : Int.fdiv ((k : Int) - 1) 2 = ((par k : Nat) : Int) := by
  have : ((k : Int) - 1) = ((k - 1 : Nat) : Int) := by omega
  rw [this, Int.fdiv_eq_ediv_of_nonneg _ (by decide)]
  unfold par; omega
theorem klt_at {D : Val → Prop} (dom : Dom D) {a b : Val} (ha : D a) (hb : D b) {H : Hp} {k : Bool → Prop} : getO (cmpV .lt a b H) k = k (klt a b) := getO_of (show cmpV .lt a b H = some (klt a b) from dom.lt a b ha hb) k
theorem set_set' (H : Hp) (l : Nat) (a b : HObj) : (H.set l a).set l b = H.set l b := List.set_set ..
theorem hide3 {α β γ : Type} (p : α → β → γ → Prop) : ∃ q : α → β → γ → Prop, ∀ a b c, q a b c ↔ p a b c := ⟨p, fun _ _ _ => Iff.rfl⟩
/- between two turns of a rise -/
inductive UInv (H : Hp) (l : Nat) (x0 x1 : Val) (zs : List Val) : Nat → Env' → Hp → Prop
  | mk {n : Nat} (ys : List Val) (a b : Option Val) (hp : ys.Perm zs) (hu : Up klt ys n) (hn : n < ys.length) : UInv H l x0 x1 zs n [some x0, some x1, some (.loc l), some (.int (n : Nat)), a, b] (H.set l (.list ys))
theorem pt_swap {T : Tab} {Φ : Funs} {H : Hp} {QS : Env' → Hp → Prop} {R : Val → Hp → Prop} {l n : Nat} {ys : List Val} {x y x0 x1 : Val} {a b : Option Val} (g : H[l]? = some (.list ys)) (hpos : 0 < n) (hx : ys[n]? = some x) (hy : ys[par n]? = some y)
    (q : QS [some x0, some x1, some (.loc l), some (.int (par n : Nat)), some (.int (par n : Nat)), some y] (H.set l (.list ((ys.set (par n) x).set n y)))) :
    wpSs T Φ (.cons (.assign 4 (.bin .fdiv (.bin .sub (.var 3) (.int 1)) (.int 2))) (.cons (.assign 5 (.sub (.var 2) (.var 4))) (.cons (.setitem (.var 2) (.var 4) (.sub (.var 2) (.var 3))) (.cons (.setitem (.var 2) (.var 3) (.var 5)) (.cons (.assign 3 (.var 4)) .nil)))))
      [some x0, some x1, some (.loc l), some (.int (n : Nat)), a, b] H QS R NoX := by
  have ln := (List.getElem?_eq_some_iff.mp hx).1
  have lp := (List.getElem?_eq_some_iff.mp hy).1
  have hxn : ys[((n : Nat) : Int).toNat]? = some x := hx
  have hyn : ys[((par n : Nat) : Int).toNat]? = some y := hy
  refine ⟨by decide, ?_⟩
  show Wp (subV (.loc l) (.int (Int.fdiv ((n : Int) - 1) 2))) H _ _
  rw [fdiv2 n hpos, ws_eq g (by omega) hyn]
  show Wp (subV (.loc l) (.int (n : Int))) H _ _
  rw [ws_eq g (by omega) hxn]
  show Wp (setitemV (.loc l) (.int (par n : Int)) x) H _ _
  rw [wa_setitem g (by omega) (by omega)]
  show Wp (setitemV (.loc l) (.int (n : Int)) y) _ _ _
  rw [wa_setitem (get_set _ g) (by omega) (by rw [List.length_set]; omega), set_set', Int.toNat_natCast, Int.toNat_natCast]
  exact q
theorem l07_put (d : Nat) {D : Val → Prop} (dom : Dom D) {i l : Nat} {v : Val} {xs : List Val} {H : Hp} (hi : H[i]? = some (.inst 6 [(4, .loc l)])) (hl : H[l]? = some (.list xs)) (hD : ∀ x ∈ xs, D x) (hv : D v) (hp : IsPile klt xs) (hn : xs.length < 1000) :
    Wp (callF T_07 (d + 1) 27 [.loc i, v]) H (fun r H' => r = .none ∧ ∃ ys, H' = H.set l (.list ys) ∧ ys.Perm (xs ++ [v]) ∧ IsPile klt ys) NoE := by
  have hlid : lid = 16777216 := rfl
  have hDz : ∀ x ∈ xs ++ [v], D x := fun x hx => by
    rcases List.mem_append.mp hx with h | h
    · exact hD x h
    · cases List.mem_singleton.mp h; exact hv
  have up := Up.put hp v
  rw [wp_call (g := f27_07) rfl rfl, f27_07]
  refine wps_asg (fun w K => w = .loc l ∧ H = K) ?_ ?_
  · show Wp (attrV (.loc i) 4) H _ _
    rw [wa_attr hi (show List.lookup 4 [(4, Val.loc l)] = some (.loc l) from rfl)]
    exact ⟨rfl, rfl⟩
  rintro _ _ ⟨rfl, rfl⟩
  refine wps_ex (fun K => K = H.set l (.list (xs ++ [v]))) ?_ ?_
  · refine wp_appendE rfl hl ?_
    exact ⟨xs, hl, by omega, rfl⟩
  rintro _ rfl
  refine wps_asg (fun w K => w = .int (xs.length : Nat) ∧ H.set l (.list (xs ++ [v])) = K) ?_ ?_
  · show Wp (bfV .len [.loc l]) _ _ _
    rw [wv_len_loc (get_set _ hl), List.length_append]
    exact ⟨congrArg Val.int (by show ((xs.length + 1 : Nat) : Int) - 1 = _; omega), rfl⟩
  rintro _ _ ⟨rfl, rfl⟩
  obtain ⟨I, hI⟩ := hide3 (UInv H l (.loc i) v (xs ++ [v]))
  rw [wps_cons]
  refine wps_loop I (n := xs.length) (by show xs.length < 2 ^ 40; omega) ((hI _ _ _).mpr (.mk (xs ++ [v]) _ _ (List.Perm.refl _) up (by simp))) ?_
  clear hi hp hv hD up
  intro n Γ K h
  obtain ⟨ys, a, b, hperm, hup, hlt⟩ := (hI _ _ _).mp h
  have g : (H.set l (.list ys))[l]? = some (.list ys) := get_set _ hl
  show brB (decide (0 < (n : Int))) _ _
  refine brB_split (fun hpos => ?_) (fun hz => ?_)
  · have hpos' : 0 < n := by omega
    have hpl := par_lt hpos'
    obtain ⟨x, hx⟩ : ∃ x, ys[n]? = some x := ⟨_, List.getElem?_eq_getElem hlt⟩
    obtain ⟨y, hy⟩ : ∃ y, ys[par n]? = some y := ⟨_, List.getElem?_eq_getElem (by omega)⟩
    have hDy : ∀ x ∈ ys, D x := fun x hx => hDz x (hperm.mem_iff.mp hx)
    show Wp (subV (.loc l) (.int (n : Int))) _ _ _
    rw [ws_eq g (by omega) (show ys[((n : Nat) : Int).toNat]? = some x from hx)]
    refine ⟨by decide, ?_⟩
    show Wp (subV (.loc l) (.int (Int.fdiv ((n : Int) - 1) 2))) _ _ _
    rw [fdiv2 n hpos', ws_eq g (by omega) (show ys[((par n : Nat) : Int).toNat]? = some y from hy)]
    show getO (cmpV .lt x y _) _
    rw [klt_at dom (hDy x (List.mem_of_getElem? hx)) (hDy y (List.mem_of_getElem? hy))]
    show brB (klt x y) _ _
    refine brB_cases (fun hlt' => ?_) (fun hge => ?_)
    · refine pt_swap g hpos' hx hy ⟨par n, hpl, (hI _ _ _).mpr ?_⟩
      rw [set_set']
      exact .mk (swap ys (par n) n y x) _ _ ((swap_perm hy hx).trans hperm) (Up.step klt_ord hpos' hup hx hy hlt') (by rw [swap_len]; omega)
    · exact ⟨rfl, ys, rfl, hperm, hup.done (.inr fun x' y' hx' hy' => by rw [hx] at hx'; rw [hy] at hy'; cases hx'; cases hy'; exact hge)⟩
  · exact ⟨rfl, ys, rfl, hperm, hup.done (.inl (by omega))⟩
/- all but one object stands -/
structure Only (l : Nat) (H H' : Hp) : Prop where
  keep : ∀ m o, m ≠ l → H[m]? = some o → H'[m]? = some o
  len : H.length ≤ H'.length
theorem Only.refl (l : Nat) (H : Hp) : Only l H H := ⟨fun _ _ _ h => h, Nat.le_refl _⟩
theorem Only.trans {l : Nat} {H H1 H2 : Hp} (a : Only l H H1) (b : Only l H1 H2) : Only l H H2 := ⟨fun m o n h => b.keep m o n (a.keep m o n h), Nat.le_trans a.len b.len⟩
theorem Only.set {l : Nat} {H H' : Hp} (a : Only l H H') (o : HObj) : Only l H (H'.set l o) := ⟨fun m ob n h => by rw [List.getElem?_set_ne (fun q => n q.symm)]; exact a.keep m ob n h, by rw [List.length_set]; exact a.len⟩
theorem Only.new {l : Nat} {H H' : Hp} (a : Only l H H') (o : HObj) : Only l H (H' ++ [o]) := ⟨fun m ob n h => by have := a.keep m ob n h; rw [List.getElem?_append_left (lt_of_get this)]; exact this, by rw [List.length_append]; have := a.len; omega⟩
/- the child that is to rise, so far -/
structure Small (ys : List Val) (k n : Nat) (m : Nat) (x : Val) : Prop where
  at' : ys[m]? = some x
  one : m = k ∨ (0 < m ∧ par m = k ∧ ∀ y, ys[k]? = some y → klt x y = true)
  all : ∀ c, 2 * k + 1 ≤ c → c < 2 * k + 1 + n → ∀ z, ys[c]? = some z → klt z x = false
theorem Small.start {ys : List Val} {k : Nat} {x : Val} (h : ys[k]? = some x) : Small ys k 0 k x := ⟨h, .inl rfl, fun c h1 h2 => by omega⟩
theorem Small.stay {ys : List Val} {k n m : Nat} {x : Val} (h : Small ys k n m x) (hc : ∀ z, ys[2 * k + 1 + n]? = some z → klt z x = false) : Small ys k (n + 1) m x :=
  ⟨h.at', h.one, fun c h1 h2 z hz => by
    by_cases q : c = 2 * k + 1 + n
    · subst q; exact hc z hz
    · exact h.all c h1 (by omega) z hz⟩
theorem Small.move {ys : List Val} {k n m : Nat} {x z : Val} (hn : n < 2) (h : Small ys k n m x) (hz : ys[2 * k + 1 + n]? = some z) (l : klt z x = true) : Small ys k (n + 1) (2 * k + 1 + n) z := by
  refine ⟨hz, .inr ⟨by omega, by unfold par; omega, fun y hy => ?_⟩, fun c h1 h2 w hw => ?_⟩
  · rcases h.one with e | ⟨_, _, e⟩
    · have := h.at'; rw [e, hy] at this; cases this; exact l
    · cases q : klt z y with
      | true => rfl
      | false =>
        have := klt_ord.tr y z x q (klt_ord.asym _ _ l)
        rw [e y hy] at this; cases this
  · by_cases q : c = 2 * k + 1 + n
    · subst q; rw [hz] at hw; cases hw; exact klt_ord.irr _
    · exact klt_ord.tr z x w (klt_ord.asym _ _ l) (h.all c h1 (by omega) w hw)
theorem Small.children {ys : List Val} {k m : Nat} {x : Val} (h : Small ys k 2 m x) : ∀ c, 0 < c → par c = k → ∀ z, ys[c]? = some z → klt z x = false := fun c hc e z hz => h.all c (by unfold par at e; omega) (by unfold par at e; omega) z hz
section
variable {Φ : Funs} {H : Hp} {QS : Env' → Hp → Prop} {R : Val → Hp → Prop} {D : Val → Prop} {i l k : Nat} {ys xs : List Val}
/- one of the two below -/
theorem sk_one {j m : Nat} {xm : Val} {x0 x2 x3 x6 : Option Val} (dom : Dom D) (hg : H[l]? = some (.list ys)) (hD : ∀ x ∈ ys, D x) (hj : j < 2) (hsm : Small ys k j m xm)
    (q : ∀ m x, Small ys k (j + 1) m x → QS [x0, some (.loc l), x2, x3, some (.int (m : Nat)), some (.int ((2 * k + 1 + j : Nat) : Int)), x6] H) :
    wpSs T_07 Φ (.cons (.ite (.and (.cmp .lt (.var 5) (.bf .len (.cons (.var 1) .nil))) (.cmp .lt (.sub (.var 1) (.var 5)) (.sub (.var 1) (.var 4)))) (.cons (.assign 4 (.var 5)) .nil) .nil) .nil)
      [x0, some (.loc l), x2, x3, some (.int (m : Nat)), some (.int ((2 * k + 1 + j : Nat) : Int)), x6] H QS R NoX := by
  simp only [↓wps_cons, ↓wps_ite, ↓wps_nil, ↓wps_assign, ↓wp_and, ↓wp_cmp, ↓wp_bf, ↓wp_cons, ↓wp_nil, ↓wp_var, ↓wp_sub, ↓getV_s, ↓getV_zero, ↓getV_succ]
  rw [wv_len_loc hg, go_lt]
  refine brB_split (fun hlt => ?_) (fun hge => ?_)
  · obtain ⟨z, hz⟩ : ∃ z, ys[2 * k + 1 + j]? = some z := ⟨_, List.getElem?_eq_getElem (by omega)⟩
    rw [ws_eq hg (v := z) (by omega) (by rw [Int.toNat_natCast]; exact hz), ws_eq hg (v := xm) (by omega) (by rw [Int.toNat_natCast]; exact hsm.at'), klt_at dom (hD z (List.mem_of_getElem? hz)) (hD xm (List.mem_of_getElem? hsm.at'))]
    refine brB_cases (fun h1 => ?_) (fun h1 => ?_)
    · exact q _ _ (hsm.move hj hz h1)
    · exact q _ _ (hsm.stay fun z' hz' => by rw [hz] at hz'; cases hz'; exact h1)
  · exact q _ _ (hsm.stay fun z' hz' => by have := (List.getElem?_eq_some_iff.mp hz').1; omega)
theorem sk_pick {xk : Val} {x0 x3 x5 x6 : Option Val} (dom : Dom D) (hg : H[l]? = some (.list ys)) (hD : ∀ x ∈ ys, D x) (hxk : ys[k]? = some xk)
    (q : ∀ m x b', Small ys k 2 m x → QS [x0, some (.loc l), some (.int (k : Nat)), x3, some (.int (m : Nat)), b', x6] (H ++ [.list [.int (2 * (k : Int) + 1), .int (2 * (k : Int) + 2)]])) :
    wpS T_07 Φ (.each 5 (.list (.cons (.bin .add (.bin .mul (.int 2) (.var 2)) (.int 1)) (.cons (.bin .add (.bin .mul (.int 2) (.var 2)) (.int 2)) .nil))) (.cons (.ite (.and (.cmp .lt (.var 5) (.bf .len (.cons (.var 1) .nil))) (.cmp .lt (.sub (.var 1) (.var 5)) (.sub (.var 1) (.var 4)))) (.cons (.assign 4 (.var 5)) .nil) .nil) .nil)) [x0, some (.loc l), some (.int (k : Nat)), x3, some (.int (k : Nat)), x5, x6] H QS R NoX := by
  apply wps_each
  simp only [↓wp_list, ↓wp_cons, ↓wp_nil, ↓wp_bin, ↓wp_int, ↓wp_var, ↓getV_s, ↓getV_zero, ↓getV_succ, ↓wv_add, ↓wv_mul]
  refine ⟨rfl, rfl, ?_⟩
  rw [getO_of (iter_list (get_new _ _))]
  have g2 : (H ++ [.list [.int (2 * (k : Int) + 1), .int (2 * (k : Int) + 2)]])[l]? = some (.list ys) := (Ext.refl H |>.new _).get hg
  have gn := get_new H (.list [.int (2 * (k : Int) + 1), .int (2 * (k : Int) + 2)])
  generalize (H ++ [HObj.list [Val.int (2 * (k : Int) + 1), Val.int (2 * (k : Int) + 2)]]) = H1 at *
  obtain ⟨I, hI⟩ := hide3 (fun (j : Nat) (Γ : Env') (H2 : Hp) => H2 = H1 ∧ ∃ m x b', Γ = [x0, some (.loc l), some (.int (k : Nat)), x3, some (.int (m : Nat)), b', x6] ∧ Small ys k j m x)
  refine wps_eachN I ((hI _ _ _).mpr ⟨rfl, k, xk, x5, rfl, Small.start hxk⟩) ?_ ?_ ?_
  · intro Γ H2 h
    obtain ⟨rfl, m, x, b', rfl, hsm⟩ := (hI _ _ _).mp h
    exact q m x b' hsm
  · intro j Γ H2 _ h
    obtain ⟨rfl, _⟩ := (hI _ _ _).mp h
    exact chk_list gn
  · clear q
    intro j x Γ H2 hx h
    obtain ⟨rfl, m, xm, b', rfl, hsm⟩ := (hI _ _ _).mp h
    have hj : j < 2 ∧ x = .int ((2 * k + 1 + j : Nat) : Int) := by
      match j, hx with
      | 0, hx => cases hx; exact ⟨by decide, congrArg Val.int (by omega)⟩
      | 1, hx => cases hx; exact ⟨by decide, congrArg Val.int (by omega)⟩
    obtain ⟨hj2, rfl⟩ := hj
    exact ⟨_, rfl, sk_one dom g2 hD hj2 hsm fun m x h => (hI _ _ _).mpr ⟨rfl, m, x, _, rfl, h⟩⟩
/- the exchange -/
theorem sk_swap {m : Nat} {x xk : Val} {x0 x5 x6 : Option Val} (hg : H[l]? = some (.list ys)) (hx : ys[m]? = some x) (hxk : ys[k]? = some xk)
    (q : QS [x0, some (.loc l), some (.int (m : Nat)), some (.bool (!decide ((m : Int) = (k : Int)))), some (.int (m : Nat)), x5, some xk] (H.set l (.list ((ys.set k x).set m xk)))) :
    wpSs T_07 Φ (.cons (.assign 3 (.cmp .ne (.var 4) (.var 2))) (.cons (.assign 6 (.sub (.var 1) (.var 2))) (.cons (.setitem (.var 1) (.var 2) (.sub (.var 1) (.var 4))) (.cons (.setitem (.var 1) (.var 4) (.var 6)) (.cons (.assign 2 (.var 4)) .nil)))))
      [x0, some (.loc l), some (.int (k : Nat)), some (.bool true), some (.int (m : Nat)), x5, x6] H QS R NoX := by
  have lm := (List.getElem?_eq_some_iff.mp hx).1
  have lk := (List.getElem?_eq_some_iff.mp hxk).1
  have hx' : ys[((m : Nat) : Int).toNat]? = some x := hx
  have hxk' : ys[((k : Nat) : Int).toNat]? = some xk := hxk
  simp only [↓wp_none, ↓wp_bool, ↓wp_int, ↓wp_glob, ↓wp_var, ↓wp_bin, ↓wp_not, ↓wp_and, ↓wp_or, ↓wp_cmp, ↓wp_cmp2, ↓wp_sub, ↓wp_oNone, ↓wp_oSome, ↓wp_tup, ↓wp_list, ↓wp_dict, ↓wp_callE, ↓wp_bf, ↓wp_bm, ↓wp_isinst, ↓wp_nil, ↓wp_cons, ↓wp_attr, ↓wp_umeth, ↓wp_new, ↓wps_nil, ↓wps_cons, ↓wps_expr, ↓wps_assign, ↓wps_ret, ↓wps_ite, ↓wps_raise, ↓wps_setattr, ↓wps_setitem, ↓wv_add, ↓wv_sub, ↓wv_mul, ↓wv_fdiv, ↓wv_mod, ↓wv_range, ↓wv_len_script, ↓wv_len_tup, ↓wv_max2, ↓go_eq, ↓go_ne, ↓go_neB, ↓go_isNotB, ↓go_isB, ↓go_lt, ↓go_gt, ↓go_le, ↓go_isNone_none, ↓go_isNone_int, ↓go_isNotNone_none, ↓go_isNotNone_int, ↓wi_int_int, ↓wi_int_bool, ↓wi_int_tup, ↓wi_int_list, ↓wi_bool_int, ↓wi_bool_bool, ↓wi_bool_tup, ↓wi_none_tup, ↓wi_none_int, ↓wi_str_tup, ↓wi_str_int, ↓wi_tup_tup, ↓wi_tup_int, ↓ws_tup0, ↓ws_tup1, ↓ws_tup2, ↓getV_zero, ↓getV_s, ↓getV_n, ↓getV_succ, ↓asBool_bool, ↓getO_some, ↓brB_true, ↓brB_false, ↓brB_not, ↓wp_ret, List.map_cons, List.map_nil, List.cons_append, List.nil_append, List.set_cons_zero, List.set_cons_succ, List.replicate_succ, List.replicate_zero, Bool.not_true, Bool.not_false, and_true, true_and, and_self]
  rw [ws_eq hg (by omega) hxk', ws_eq hg (by omega) hx', wa_setitem hg (by omega) (by omega), wa_setitem (get_set _ hg) (by omega) (by rw [List.length_set]; omega), set_set', Int.toNat_natCast, Int.toNat_natCast]
  exact q
/- between two turns -/
inductive SInv (H : Hp) (i l : Nat) (xs : List Val) : Nat → Env' → Hp → Prop
  | go {n : Nat} {K : Hp} (ys : List Val) (k : Nat) (a b c : Option Val) (ho : Only l H K) (hg : K[l]? = some (.list ys)) (hp : ys.Perm xs) (hd : Down klt ys k) (hk : k < ys.length) (hn : n = ys.length - k) : SInv H i l xs n [some (.loc i), some (.loc l), some (.int (k : Nat)), some (.bool true), a, b, c] K
  | stop {n : Nat} {K : Hp} (ys : List Val) (k : Nat) (a b c : Option Val) (ho : Only l H K) (hg : K[l]? = some (.list ys)) (hp : ys.Perm xs) (pile : IsPile klt ys) : SInv H i l xs n [some (.loc i), some (.loc l), some (.int (k : Nat)), some (.bool false), a, b, c] K
theorem l07_sink (d : Nat) (dom : Dom D) (hil : i ≠ l) (hi : H[i]? = some (.inst 6 [(4, .loc l)])) (hl : H[l]? = some (.list xs)) (hD : ∀ x ∈ xs, D x) (hp : Down klt xs 0) (h0 : 0 < xs.length) (hn : xs.length < 1000) :
    Wp (callF T_07 (d + 1) 30 [.loc i]) H (fun r H' => r = .none ∧ Only l H H' ∧ ∃ ys, H'[l]? = some (.list ys) ∧ ys.Perm xs ∧ IsPile klt ys) NoE := by
  rw [wp_call (g := f30_07) rfl rfl, f30_07]
  refine wps_asg (fun w K => w = .loc l ∧ H = K) ?_ ?_
  · show Wp (attrV (.loc i) 4) H _ _
    rw [wa_attr hi (show List.lookup 4 [(4, Val.loc l)] = some (.loc l) from rfl)]
    exact ⟨rfl, rfl⟩
  rintro _ _ ⟨rfl, rfl⟩
  refine wps_asg (fun w K => w = .int (0 : Nat) ∧ H = K) ⟨rfl, rfl⟩ ?_
  rintro _ _ ⟨rfl, rfl⟩
  refine wps_asg (fun w K => w = .bool true ∧ H = K) ⟨rfl, rfl⟩ ?_
  rintro _ _ ⟨rfl, rfl⟩
  obtain ⟨I, hI⟩ := hide3 (SInv H i l xs)
  refine wps_seq (fun Γ K => Only l H K ∧ ∃ ys, K[l]? = some (.list ys) ∧ ys.Perm xs ∧ IsPile klt ys) ?_ (fun Γ K h => ⟨rfl, h⟩)
  refine wps_loop I (n := xs.length) (by show xs.length < 2 ^ 40; omega) ((hI _ _ _).mpr (.go xs 0 _ _ _ (Only.refl _ _) hl (List.Perm.refl _) hp h0 rfl)) ?_
  clear hi hp hl
  intro n Γ K h
  rcases (hI _ _ _).mp h with ⟨ys, k, a, b, c, ho, hg, hperm, hdown, hk, hnn⟩ | ⟨ys, k, a, b, c, ho, hg, hperm, hpile⟩
  · have hDy : ∀ x ∈ ys, D x := fun x hx => hD x (hperm.mem_iff.mp hx)
    obtain ⟨xk, hxk⟩ : ∃ x, ys[k]? = some x := ⟨_, List.getElem?_eq_getElem hk⟩
    refine wps_asg (fun w H2 => w = .int (k : Nat) ∧ K = H2) ⟨rfl, rfl⟩ ?_
    rintro _ _ ⟨rfl, rfl⟩
    rw [wps_cons]
    refine sk_pick dom hg hDy hxk fun m x b' hsm => ?_
    have hg2 := (Ext.refl K |>.new (.list [.int (2 * (k : Int) + 1), .int (2 * (k : Int) + 2)])).get hg
    have ho2 := ho.new (.list [.int (2 * (k : Int) + 1), .int (2 * (k : Int) + 2)])
    refine sk_swap hg2 hsm.at' hxk ?_
    have g3 : ∀ zs, (((K ++ [HObj.list [Val.int (2 * (k : Int) + 1), Val.int (2 * (k : Int) + 2)]])).set l (.list zs))[l]? = some (.list zs) := fun zs => get_set _ hg2
    rcases hsm.one with rfl | ⟨m0, pm, hmk⟩
    · have exk : x = xk := Option.some.inj (hsm.at'.symm.trans hxk)
      subst exk
      have same : (ys.set m x).set m x = ys := by
        rw [List.set_set]
        apply List.ext_getElem?
        intro q
        by_cases e : m = q
        · subst e; rw [List.getElem?_set_self hk, hxk]
        · rw [List.getElem?_set_ne e]
      rw [same, show decide ((m : Int) = (m : Int)) = true by simp]
      exact ⟨0, by omega, (hI _ _ _).mpr (.stop ys m _ _ _ (ho2.set _) (g3 _) hperm (hdown.done fun c hc e a b ha hb => by rw [e, hxk] at hb; cases hb; exact hsm.children c hc e a ha))⟩
    · have pk := par_lt m0
      have lm := (List.getElem?_eq_some_iff.mp hsm.at').1
      rw [show decide ((m : Int) = (k : Int)) = false by simpa using fun q : (m : Int) = k => by omega]
      exact ⟨ys.length - m, by omega, (hI _ _ _).mpr (.go (swap ys k m xk x) m _ _ _ (ho2.set _) (g3 _) ((swap_perm hxk hsm.at').trans hperm) (Down.step klt_ord hdown m0 pm hxk hsm.at' (hmk xk hxk) hsm.children) (by rw [swap_len]; exact lm) (by rw [swap_len]))⟩
  · exact ⟨ho, ys, hg, hperm, hpile⟩
end
theorem wu_meth {T : Tab} {H : Hp} {i c m k : Nat} {fs : List (Nat × Val)} {Q : Nat → Hp → Prop} {E : Nat → Hp → Prop} (h : H[i]? = some (.inst c fs)) (hk : T.meth c m = some k) : Wp (umethOf T (.loc i) m) H Q E = Q k H := by
  have : umethOf T (.loc i) m H = .ok k H := by
    unfold umethOf; rw [look_at]; simp only [h, hk]
  unfold Wp; rw [this]
theorem pile_drop {h : List Val} (p : IsPile klt h) : IsPile klt h.dropLast := by
  intro j hj x y hx hy
  have get : ∀ (q : Nat) (z : Val), h.dropLast[q]? = some z → h[q]? = some z := fun q z hz => by
    have lq := (List.getElem?_eq_some_iff.mp hz).1
    rw [List.getElem?_dropLast, if_pos (by simpa using lq)] at hz
    exact hz
  exact p j hj x y (get _ _ hx) (get _ _ hy)
theorem last_perm (m : Val) (t : List Val) (z : Val) (h : t.getLast? = some z) : (((m :: t).dropLast).set 0 z).Perm t := by
  cases t with
  | nil => cases h
  | cons a t' =>
    have e : (m :: a :: t').dropLast = m :: (a :: t').dropLast := rfl
    rw [e]
    show (z :: (a :: t').dropLast).Perm (a :: t')
    have e2 : (a :: t') = (a :: t').dropLast ++ [z] := by
      rw [List.getLast?_eq_some_getLast (by simp)] at h
      cases h
      exact (List.dropLast_concat_getLast (by simp)).symm
    rw [e2, List.dropLast_concat]
    exact (List.perm_append_singleton z _).symm
theorem l07_take (d : Nat) {D : Val → Prop} (dom : Dom D) {i l : Nat} {xs : List Val} {H : Hp} (hil : i ≠ l) (hi : H[i]? = some (.inst 6 [(4, .loc l)])) (hl : H[l]? = some (.list xs)) (hD : ∀ x ∈ xs, D x) (hp : IsPile klt xs) (hn : xs.length < 1000) (h0 : xs ≠ []) :
    Wp (callF T_07 (d + 2) 29 [.loc i]) H (fun r H' => ∃ t ys, xs = r :: t ∧ Only l H H' ∧ H'[l]? = some (.list ys) ∧ ys.Perm t ∧ IsPile klt ys) NoE := by
  obtain ⟨m, t, rfl⟩ := List.exists_cons_of_ne_nil h0
  rw [wp_call (g := f29_07) rfl rfl, f29_07]
  refine wps_asg (fun w K => w = .loc l ∧ H = K) ?_ ?_
  · show Wp (attrV (.loc i) 4) H _ _
    rw [wa_attr hi (show List.lookup 4 [(4, Val.loc l)] = some (.loc l) from rfl)]
    exact ⟨rfl, rfl⟩
  rintro _ _ ⟨rfl, rfl⟩
  refine wps_no (fun K => H = K) ?_ ?_
  · show Wp (bfV .len [.loc l]) H _ _
    rw [wv_len_loc hl]
    rw [wp_int, go_eq]
    exact ⟨congrArg Val.bool (decide_eq_false (by rw [List.length_cons]; omega)), rfl⟩
  rintro _ rfl
  refine wps_asg (fun w K => m = w ∧ H = K) ?_ ?_
  · show Wp (subV (.loc l) (.int 0)) H _ _
    rw [ws_eq hl (v := m) (k := 0) (by decide) rfl]
    exact ⟨rfl, rfl⟩
  rintro _ _ ⟨rfl, rfl⟩
  obtain ⟨z, hz⟩ : ∃ z, (m :: t).getLast? = some z := ⟨_, List.getLast?_eq_some_getLast (by simp)⟩
  refine wps_asg (fun w K => z = w ∧ K = H.set l (.list (m :: t).dropLast)) ?_ ?_
  · show getO (bmFits .pop (.loc l) H) _
    rw [getO_of (fits_pop hl)]
    exact wm_pop hl hz ⟨rfl, rfl⟩
  rintro _ H1 ⟨rfl, e1⟩
  have g1 : H1[l]? = some (.list (m :: t).dropLast) := by rw [e1]; exact get_set _ hl
  have o1 : Only l H H1 := by rw [e1]; exact (Only.refl l H).set _
  clear e1 hl
  rw [wps_cons, wps_ite]
  show Wp (bfV .len [.loc l]) H1 _ _
  rw [wv_len_loc g1]
  cases t with
  | nil => exact ⟨[], [], rfl, o1, g1, List.Perm.refl _, fun j hj x y hx => by simp at hx⟩
  | cons a t' =>
    have hzl : (a :: t').getLast? = some z := by simpa using hz
    have perm := last_perm m (a :: t') z hzl
    have len1 : ((m :: a :: t').dropLast).length = t'.length + 1 := by simp
    have i2 : (List.set H1 l (.list (((m :: a :: t').dropLast).set 0 z)))[i]? = some (.inst 6 [(4, .loc l)]) := (o1.set _).keep i _ hil hi
    rw [wp_int, go_gt, len1]
    show brB (decide (0 < ((t'.length + 1 : Nat) : Int))) _ _
    rw [brB_pos (by omega)]
    show Wp (setitemV (.loc l) (.int 0) z) H1 _ _
    rw [wa_setitem g1 (by decide) (by rw [len1]; omega)]
    show Wp (umethOf T_07 (.loc i) 9) (H1.set l (.list (((m :: a :: t').dropLast).set 0 z))) _ _
    rw [wu_meth i2 (show T_07.meth 6 9 = some 30 from rfl)]
    refine (l07_sink d dom hil i2 (get_set _ g1) (fun x hx => hD x (.tail _ (perm.mem_iff.mp hx))) (Down.top (pile_drop hp) z) (by rw [List.length_set, len1]; omega) (by rw [List.length_set, len1]; simp at hn; omega)).then ?_
    rintro _ H3 ⟨rfl, o3, ys, g3, p3, pile3⟩
    exact ⟨a :: t', ys, rfl, (o1.set _).trans o3, g3, p3.trans perm, pile3⟩
theorem l07_many (d : Nat) {i l : Nat} {xs : List Val} {H : Hp} (hi : H[i]? = some (.inst 6 [(4, .loc l)])) (hl : H[l]? = some (.list xs)) :
    Wp (callF T_07 (d + 1) 31 [.loc i]) H (fun r H' => H' = H ∧ r = .int (xs.length : Nat)) NoE := by
  rw [wp_call (g := f31_07) rfl rfl, f31_07]
  simp only [↓wp_none, ↓wp_bool, ↓wp_int, ↓wp_glob, ↓wp_var, ↓wp_bin, ↓wp_not, ↓wp_and, ↓wp_or, ↓wp_cmp, ↓wp_cmp2, ↓wp_sub, ↓wp_oNone, ↓wp_oSome, ↓wp_tup, ↓wp_list, ↓wp_dict, ↓wp_callE, ↓wp_bf, ↓wp_bm, ↓wp_isinst, ↓wp_nil, ↓wp_cons, ↓wp_attr, ↓wp_umeth, ↓wp_new, ↓wps_nil, ↓wps_cons, ↓wps_expr, ↓wps_assign, ↓wps_ret, ↓wps_ite, ↓wps_raise, ↓wps_setattr, ↓wps_setitem, ↓wv_add, ↓wv_sub, ↓wv_mul, ↓wv_fdiv, ↓wv_mod, ↓wv_range, ↓wv_len_script, ↓wv_len_tup, ↓wv_max2, ↓go_eq, ↓go_ne, ↓go_neB, ↓go_isNotB, ↓go_isB, ↓go_lt, ↓go_gt, ↓go_le, ↓go_isNone_none, ↓go_isNone_int, ↓go_isNotNone_none, ↓go_isNotNone_int, ↓wi_int_int, ↓wi_int_bool, ↓wi_int_tup, ↓wi_int_list, ↓wi_bool_int, ↓wi_bool_bool, ↓wi_bool_tup, ↓wi_none_tup, ↓wi_none_int, ↓wi_str_tup, ↓wi_str_int, ↓wi_tup_tup, ↓wi_tup_int, ↓ws_tup0, ↓ws_tup1, ↓ws_tup2, ↓getV_zero, ↓getV_s, ↓getV_n, ↓getV_succ, ↓asBool_bool, ↓getO_some, ↓brB_true, ↓brB_false, ↓brB_not, ↓wp_ret, List.map_cons, List.map_nil, List.cons_append, List.nil_append, List.set_cons_zero, List.set_cons_succ, List.replicate_succ, List.replicate_zero, Bool.not_true, Bool.not_false, and_true, true_and, and_self, wa_attr hi (show List.lookup 4 [(4, Val.loc l)] = some (.loc l) from rfl), wv_len_loc hl]
/- a new pile -/
theorem l07_new (d : Nat) (H : Hp) {Q : Val → Hp → Prop} {E : Nat → Hp → Prop} (q : Q (.loc H.length) (H ++ [.inst 6 [(4, .loc (H.length + 1))], .list []])) :
    Wp (newV T_07 (callF T_07 (d + 1)) 6 []) H Q E := by
  have e : newV T_07 (callF T_07 (d + 1)) 6 [] H = .ok (.loc H.length) (H ++ [.inst 6 [(4, .loc (H.length + 1))], .list []]) := by
    unfold newV
    show M.bnd _ _ _ = _
    rw [bnd_ok (show M.alloc (.inst 6 []) H = .ok (.loc H.length) (H ++ [.inst 6 []]) from rfl)]
    have c : callF T_07 (d + 1) 26 [.loc H.length] (H ++ [.inst 6 []]) = .ok .none (H ++ [.inst 6 [(4, .loc (H.length + 1))], .list []]) := by
      have w : Wp (callF T_07 (d + 1) 26 [.loc H.length]) (H ++ [.inst 6 []]) (fun r H' => r = .none ∧ H' = H ++ [.inst 6 [(4, .loc (H.length + 1))], .list []]) NoE := by
        rw [wp_call (g := f26_07) rfl rfl, f26_07]
        simp only [↓wp_none, ↓wp_bool, ↓wp_int, ↓wp_glob, ↓wp_var, ↓wp_bin, ↓wp_not, ↓wp_and, ↓wp_or, ↓wp_cmp, ↓wp_cmp2, ↓wp_sub, ↓wp_oNone, ↓wp_oSome, ↓wp_tup, ↓wp_list, ↓wp_dict, ↓wp_callE, ↓wp_bf, ↓wp_bm, ↓wp_isinst, ↓wp_nil, ↓wp_cons, ↓wp_attr, ↓wp_umeth, ↓wp_new, ↓wps_nil, ↓wps_cons, ↓wps_expr, ↓wps_assign, ↓wps_ret, ↓wps_ite, ↓wps_raise, ↓wps_setattr, ↓wps_setitem, ↓wv_add, ↓wv_sub, ↓wv_mul, ↓wv_fdiv, ↓wv_mod, ↓wv_range, ↓wv_len_script, ↓wv_len_tup, ↓wv_max2, ↓go_eq, ↓go_ne, ↓go_neB, ↓go_isNotB, ↓go_isB, ↓go_lt, ↓go_gt, ↓go_le, ↓go_isNone_none, ↓go_isNone_int, ↓go_isNotNone_none, ↓go_isNotNone_int, ↓wi_int_int, ↓wi_int_bool, ↓wi_int_tup, ↓wi_int_list, ↓wi_bool_int, ↓wi_bool_bool, ↓wi_bool_tup, ↓wi_none_tup, ↓wi_none_int, ↓wi_str_tup, ↓wi_str_int, ↓wi_tup_tup, ↓wi_tup_int, ↓ws_tup0, ↓ws_tup1, ↓ws_tup2, ↓getV_zero, ↓getV_s, ↓getV_n, ↓getV_succ, ↓asBool_bool, ↓getO_some, ↓brB_true, ↓brB_false, ↓brB_not, ↓wp_ret, List.map_cons, List.map_nil, List.cons_append, List.nil_append, List.set_cons_zero, List.set_cons_succ, List.replicate_succ, List.replicate_zero, Bool.not_true, Bool.not_false, and_true, true_and, and_self]
        have g : ((H ++ [HObj.inst 6 []]) ++ [HObj.list []])[H.length]? = some (.inst 6 []) := ((Ext.refl _).new _).get (get_new _ _)
        have st : setattrV (.loc H.length) 4 (.loc (H ++ [HObj.inst 6 []]).length) ((H ++ [HObj.inst 6 []]) ++ [HObj.list []]) = .ok () (((H ++ [HObj.inst 6 []]) ++ [HObj.list []]).set H.length (HObj.inst 6 [(4, .loc (H ++ [HObj.inst 6 []]).length)])) := by
          unfold setattrV; simp only [g]; rfl
        refine Wp.of_eq st ?_
        rw [List.length_append, List.append_assoc, List.set_append_right _ _ (Nat.le_refl _)]
        simp
      obtain ⟨r, H', e1, rfl, rfl⟩ := w.get
      exact e1
    rw [bnd_ok c]
    rfl
  exact Wp.of_eq e q
/-! ## the law's helpers -/
end Mine.Pure

-- part L7A
namespace Mine.Pure
open PySem
section
variable {H : Hp} {Q : Val → Hp → Prop} {E : Nat → Hp → Prop} {d : Nat}
/- a height -/
noncomputable def HV (v : Val) : Prop := v = .none ∨ ∃ i : Int, v = .int i ∧ 0 ≤ i ∧ i ≤ 1000000000
theorem globs_0 : T_07.globs[0]? = some (.int 30) := rfl
theorem globs_1 : T_07.globs[1]? = some (.int 1000000000) := rfl
theorem l07_whole {x lo hi : Int} (h1 : lo ≤ x) (h2 : x ≤ hi) : Wp (callF T_07 (d + 1) 0 [.int x, .int lo, .int hi]) H Q E = Q (.bool true) H := by
  rw [wp_call (g := f0_07) rfl rfl, f0_07]
  simp only [↓wp_none, ↓wp_bool, ↓wp_int, ↓wp_glob, ↓wp_var, ↓wp_bin, ↓wp_not, ↓wp_and, ↓wp_or, ↓wp_cmp, ↓wp_cmp2, ↓wp_sub, ↓wp_oNone, ↓wp_oSome, ↓wp_tup, ↓wp_list, ↓wp_dict, ↓wp_callE, ↓wp_bf, ↓wp_bm, ↓wp_isinst, ↓wp_nil, ↓wp_cons, ↓wp_attr, ↓wp_umeth, ↓wp_new, ↓wps_nil, ↓wps_cons, ↓wps_expr, ↓wps_assign, ↓wps_ret, ↓wps_ite, ↓wps_raise, ↓wps_setattr, ↓wps_setitem, ↓wv_add, ↓wv_sub, ↓wv_mul, ↓wv_fdiv, ↓wv_mod, ↓wv_range, ↓wv_len_script, ↓wv_len_tup, ↓wv_max2, ↓go_eq, ↓go_ne, ↓go_neB, ↓go_isNotB, ↓go_isB, ↓go_lt, ↓go_gt, ↓go_le, ↓go_isNone_none, ↓go_isNone_int, ↓go_isNotNone_none, ↓go_isNotNone_int, ↓wi_int_int, ↓wi_int_bool, ↓wi_int_tup, ↓wi_int_list, ↓wi_bool_int, ↓wi_bool_bool, ↓wi_bool_tup, ↓wi_none_tup, ↓wi_none_int, ↓wi_str_tup, ↓wi_str_int, ↓wi_tup_tup, ↓wi_tup_int, ↓ws_tup0, ↓ws_tup1, ↓ws_tup2, ↓getV_zero, ↓getV_s, ↓getV_n, ↓getV_succ, ↓asBool_bool, ↓getO_some, ↓brB_true, ↓brB_false, ↓brB_not, ↓wp_ret, List.map_cons, List.map_nil, List.cons_append, List.nil_append, List.set_cons_zero, List.set_cons_succ, List.replicate_succ, List.replicate_zero, Bool.not_true, Bool.not_false, and_true, true_and, and_self, decide_eq_true h1, decide_eq_true h2]
theorem l07_lies {r c i j : Int} (h1 : 0 ≤ i) (h2 : i < r) (h3 : 0 ≤ j) (h4 : j < c) : Wp (callF T_07 (d + 2) 1 [.int r, .int c, .tup [.int i, .int j]]) H Q E = Q (.bool true) H := by
  rw [wp_call (g := f1_07) rfl rfl, f1_07]
  simp only [↓wp_none, ↓wp_bool, ↓wp_int, ↓wp_glob, ↓wp_var, ↓wp_bin, ↓wp_not, ↓wp_and, ↓wp_or, ↓wp_cmp, ↓wp_cmp2, ↓wp_sub, ↓wp_oNone, ↓wp_oSome, ↓wp_tup, ↓wp_list, ↓wp_dict, ↓wp_callE, ↓wp_bf, ↓wp_bm, ↓wp_isinst, ↓wp_nil, ↓wp_cons, ↓wp_attr, ↓wp_umeth, ↓wp_new, ↓wps_nil, ↓wps_cons, ↓wps_expr, ↓wps_assign, ↓wps_ret, ↓wps_ite, ↓wps_raise, ↓wps_setattr, ↓wps_setitem, ↓wv_add, ↓wv_sub, ↓wv_mul, ↓wv_fdiv, ↓wv_mod, ↓wv_range, ↓wv_len_script, ↓wv_len_tup, ↓wv_max2, ↓go_eq, ↓go_ne, ↓go_neB, ↓go_isNotB, ↓go_isB, ↓go_lt, ↓go_gt, ↓go_le, ↓go_isNone_none, ↓go_isNone_int, ↓go_isNotNone_none, ↓go_isNotNone_int, ↓wi_int_int, ↓wi_int_bool, ↓wi_int_tup, ↓wi_int_list, ↓wi_bool_int, ↓wi_bool_bool, ↓wi_bool_tup, ↓wi_none_tup, ↓wi_none_int, ↓wi_str_tup, ↓wi_str_int, ↓wi_tup_tup, ↓wi_tup_int, ↓ws_tup0, ↓ws_tup1, ↓ws_tup2, ↓getV_zero, ↓getV_s, ↓getV_n, ↓getV_succ, ↓asBool_bool, ↓getO_some, ↓brB_true, ↓brB_false, ↓brB_not, ↓wp_ret, List.map_cons, List.map_nil, List.cons_append, List.nil_append, List.set_cons_zero, List.set_cons_succ, List.replicate_succ, List.replicate_zero, Bool.not_true, Bool.not_false, and_true, true_and, and_self]
  rw [l07_whole h1 (by omega), asBool_bool, brB_true, l07_whole h3 (by omega)]
  rfl
theorem l07_height {v : Val} (h : HV v) : Wp (callF T_07 (d + 2) 4 [v]) H Q E = Q (.bool true) H := by
  rw [wp_call (g := f4_07) rfl rfl, f4_07]
  rcases h with rfl | ⟨i, rfl, h1, h2⟩
  · simp only [↓wp_none, ↓wp_bool, ↓wp_int, ↓wp_glob, ↓wp_var, ↓wp_bin, ↓wp_not, ↓wp_and, ↓wp_or, ↓wp_cmp, ↓wp_cmp2, ↓wp_sub, ↓wp_oNone, ↓wp_oSome, ↓wp_tup, ↓wp_list, ↓wp_dict, ↓wp_callE, ↓wp_bf, ↓wp_bm, ↓wp_isinst, ↓wp_nil, ↓wp_cons, ↓wp_attr, ↓wp_umeth, ↓wp_new, ↓wps_nil, ↓wps_cons, ↓wps_expr, ↓wps_assign, ↓wps_ret, ↓wps_ite, ↓wps_raise, ↓wps_setattr, ↓wps_setitem, ↓wv_add, ↓wv_sub, ↓wv_mul, ↓wv_fdiv, ↓wv_mod, ↓wv_range, ↓wv_len_script, ↓wv_len_tup, ↓wv_max2, ↓go_eq, ↓go_ne, ↓go_neB, ↓go_isNotB, ↓go_isB, ↓go_lt, ↓go_gt, ↓go_le, ↓go_isNone_none, ↓go_isNone_int, ↓go_isNotNone_none, ↓go_isNotNone_int, ↓wi_int_int, ↓wi_int_bool, ↓wi_int_tup, ↓wi_int_list, ↓wi_bool_int, ↓wi_bool_bool, ↓wi_bool_tup, ↓wi_none_tup, ↓wi_none_int, ↓wi_str_tup, ↓wi_str_int, ↓wi_tup_tup, ↓wi_tup_int, ↓ws_tup0, ↓ws_tup1, ↓ws_tup2, ↓getV_zero, ↓getV_s, ↓getV_n, ↓getV_succ, ↓asBool_bool, ↓getO_some, ↓brB_true, ↓brB_false, ↓brB_not, ↓wp_ret, List.map_cons, List.map_nil, List.cons_append, List.nil_append, List.set_cons_zero, List.set_cons_succ, List.replicate_succ, List.replicate_zero, Bool.not_true, Bool.not_false, and_true, true_and, and_self]
  · simp only [↓wp_none, ↓wp_bool, ↓wp_int, ↓wp_glob, ↓wp_var, ↓wp_bin, ↓wp_not, ↓wp_and, ↓wp_or, ↓wp_cmp, ↓wp_cmp2, ↓wp_sub, ↓wp_oNone, ↓wp_oSome, ↓wp_tup, ↓wp_list, ↓wp_dict, ↓wp_callE, ↓wp_bf, ↓wp_bm, ↓wp_isinst, ↓wp_nil, ↓wp_cons, ↓wp_attr, ↓wp_umeth, ↓wp_new, ↓wps_nil, ↓wps_cons, ↓wps_expr, ↓wps_assign, ↓wps_ret, ↓wps_ite, ↓wps_raise, ↓wps_setattr, ↓wps_setitem, ↓wv_add, ↓wv_sub, ↓wv_mul, ↓wv_fdiv, ↓wv_mod, ↓wv_range, ↓wv_len_script, ↓wv_len_tup, ↓wv_max2, ↓go_eq, ↓go_ne, ↓go_neB, ↓go_isNotB, ↓go_isB, ↓go_lt, ↓go_gt, ↓go_le, ↓go_isNone_none, ↓go_isNone_int, ↓go_isNotNone_none, ↓go_isNotNone_int, ↓wi_int_int, ↓wi_int_bool, ↓wi_int_tup, ↓wi_int_list, ↓wi_bool_int, ↓wi_bool_bool, ↓wi_bool_tup, ↓wi_none_tup, ↓wi_none_int, ↓wi_str_tup, ↓wi_str_int, ↓wi_tup_tup, ↓wi_tup_int, ↓ws_tup0, ↓ws_tup1, ↓ws_tup2, ↓getV_zero, ↓getV_s, ↓getV_n, ↓getV_succ, ↓asBool_bool, ↓getO_some, ↓brB_true, ↓brB_false, ↓brB_not, ↓wp_ret, List.map_cons, List.map_nil, List.cons_append, List.nil_append, List.set_cons_zero, List.set_cons_succ, List.replicate_succ, List.replicate_zero, Bool.not_true, Bool.not_false, and_true, true_and, and_self, globs_1]
    exact l07_whole h1 h2
theorem l07_wholeL (i : Int) : Wp (callF T_07 (d + 1) 9 [.int i]) H Q E = Q (.bool true) H := by
  rw [wp_call (g := f9_07) rfl rfl, f9_07]
  simp only [↓wp_none, ↓wp_bool, ↓wp_int, ↓wp_glob, ↓wp_var, ↓wp_bin, ↓wp_not, ↓wp_and, ↓wp_or, ↓wp_cmp, ↓wp_cmp2, ↓wp_sub, ↓wp_oNone, ↓wp_oSome, ↓wp_tup, ↓wp_list, ↓wp_dict, ↓wp_callE, ↓wp_bf, ↓wp_bm, ↓wp_isinst, ↓wp_nil, ↓wp_cons, ↓wp_attr, ↓wp_umeth, ↓wp_new, ↓wps_nil, ↓wps_cons, ↓wps_expr, ↓wps_assign, ↓wps_ret, ↓wps_ite, ↓wps_raise, ↓wps_setattr, ↓wps_setitem, ↓wv_add, ↓wv_sub, ↓wv_mul, ↓wv_fdiv, ↓wv_mod, ↓wv_range, ↓wv_len_script, ↓wv_len_tup, ↓wv_max2, ↓go_eq, ↓go_ne, ↓go_neB, ↓go_isNotB, ↓go_isB, ↓go_lt, ↓go_gt, ↓go_le, ↓go_isNone_none, ↓go_isNone_int, ↓go_isNotNone_none, ↓go_isNotNone_int, ↓wi_int_int, ↓wi_int_bool, ↓wi_int_tup, ↓wi_int_list, ↓wi_bool_int, ↓wi_bool_bool, ↓wi_bool_tup, ↓wi_none_tup, ↓wi_none_int, ↓wi_str_tup, ↓wi_str_int, ↓wi_tup_tup, ↓wi_tup_int, ↓ws_tup0, ↓ws_tup1, ↓ws_tup2, ↓getV_zero, ↓getV_s, ↓getV_n, ↓getV_succ, ↓asBool_bool, ↓getO_some, ↓brB_true, ↓brB_false, ↓brB_not, ↓wp_ret, List.map_cons, List.map_nil, List.cons_append, List.nil_append, List.set_cons_zero, List.set_cons_succ, List.replicate_succ, List.replicate_zero, Bool.not_true, Bool.not_false, and_true, true_and, and_self]
end
noncomputable def cellAt (ns : List Int) (k : Nat) : Int := ns.getD k 0
section
variable {H : Hp} {Q : Val → Hp → Prop} {E : Nat → Hp → Prop} {d : Nat}
theorem ws_script {ns : List Int} {k : Nat} (h : k < ns.length) : Wp (subV (.script ns) (.int (k : Int))) H Q E = Q (.int (ns.getD k 0)) H := by
  have e : ns[k]? = some (ns.getD k 0) := by rw [List.getD_eq_getElem?_getD, List.getElem?_eq_getElem h]; rfl
  rw [sub_script e]; rfl
theorem l07_cell (ns : List Int) (k : Nat) : Wp (callF T_07 (d + 1) 8 [.script ns, .int (k : Int)]) H Q E = Q (.int (cellAt ns k)) H := by
  rw [wp_call (g := f8_07) rfl rfl, f8_07]
  simp only [↓wp_none, ↓wp_bool, ↓wp_int, ↓wp_glob, ↓wp_var, ↓wp_bin, ↓wp_not, ↓wp_and, ↓wp_or, ↓wp_cmp, ↓wp_cmp2, ↓wp_sub, ↓wp_oNone, ↓wp_oSome, ↓wp_tup, ↓wp_list, ↓wp_dict, ↓wp_callE, ↓wp_bf, ↓wp_bm, ↓wp_isinst, ↓wp_nil, ↓wp_cons, ↓wp_attr, ↓wp_umeth, ↓wp_new, ↓wps_nil, ↓wps_cons, ↓wps_expr, ↓wps_assign, ↓wps_ret, ↓wps_ite, ↓wps_raise, ↓wps_setattr, ↓wps_setitem, ↓wv_add, ↓wv_sub, ↓wv_mul, ↓wv_fdiv, ↓wv_mod, ↓wv_range, ↓wv_len_script, ↓wv_len_tup, ↓wv_max2, ↓go_eq, ↓go_ne, ↓go_neB, ↓go_isNotB, ↓go_isB, ↓go_lt, ↓go_gt, ↓go_le, ↓go_isNone_none, ↓go_isNone_int, ↓go_isNotNone_none, ↓go_isNotNone_int, ↓wi_int_int, ↓wi_int_bool, ↓wi_int_tup, ↓wi_int_list, ↓wi_bool_int, ↓wi_bool_bool, ↓wi_bool_tup, ↓wi_none_tup, ↓wi_none_int, ↓wi_str_tup, ↓wi_str_int, ↓wi_tup_tup, ↓wi_tup_int, ↓ws_tup0, ↓ws_tup1, ↓ws_tup2, ↓getV_zero, ↓getV_s, ↓getV_n, ↓getV_succ, ↓asBool_bool, ↓getO_some, ↓brB_true, ↓brB_false, ↓brB_not, ↓wp_ret, List.map_cons, List.map_nil, List.cons_append, List.nil_append, List.set_cons_zero, List.set_cons_succ, List.replicate_succ, List.replicate_zero, Bool.not_true, Bool.not_false, and_true, true_and, and_self]
  by_cases q : (k : Int) < ns.length
  · rw [brB_pos q, ws_script (by omega)]; rfl
  · rw [brB_neg q]
    show Q (.int 0) H = _
    rw [show cellAt ns k = 0 by unfold cellAt; rw [List.getD_eq_getElem?_getD, List.getElem?_eq_none (by omega)]; rfl]
noncomputable def OkS (r c : Nat) : Prop := 1 ≤ r ∧ r ≤ 30 ∧ 1 ≤ c ∧ c ≤ 30
theorem fmod_nat (a : Int) (n : Nat) (h : 0 < n) : ∃ k : Nat, Int.fmod a n = k ∧ k < n := by
  have h1 := Int.fmod_nonneg_of_pos a (show (0 : Int) < n by omega)
  have h2 := Int.fmod_lt_of_pos a (show (0 : Int) < n by omega)
  exact ⟨(Int.fmod a n).toNat, by omega, by omega⟩
theorem brB_imp {b : Bool} {A B A' B' : Prop} (h : brB b A B) (h1 : A → A') (h2 : B → B') : brB b A' B' := by
  cases b
  · exact h2 h
  · exact h1 h
theorem l07_by (n : Int) (k : Int) (hk : 0 ≤ k) : ∃ v, HV v ∧ ∀ (H : Hp), Wp (callF T_07 (d + 1) 11 [.int n, .int k]) H (fun w H' => w = v ∧ H' = H) NoE := by
  obtain ⟨a, ha, la⟩ := fmod_nat (Int.fdiv n 9) 3 (by decide)
  obtain ⟨b, hb, lb⟩ := fmod_nat (Int.fdiv n 9) 12 (by decide)
  obtain ⟨c, hc, lc⟩ := fmod_nat (Int.fdiv n 9) 1000000001 (by decide)
  obtain ⟨e, he, le⟩ := fmod_nat (Int.fdiv n 9) 2 (by decide)
  have st : ∀ (v : Val) (H : Hp), brB (decide (Int.fmod n 9 = 8)) (Val.none = v) (brB (decide (k = 0)) (Val.int a = v) (brB (decide (k = 1)) (Val.int b = v) (brB (decide (k = 2)) (Val.int c = v) (Val.int (1000000000 - e) = v)))) → Wp (callF T_07 (d + 1) 11 [.int n, .int k]) H (fun w H' => w = v ∧ H' = H) NoE := fun v H h => by
    rw [wp_call (g := f11_07) rfl rfl, f11_07]
    refine ⟨by decide, ?_⟩
    show brB (decide (Int.fmod n 9 = 8)) (Val.none = v ∧ H = H) (brB (decide (k = 0)) (_ ∧ _ ∧ (Val.int (Int.fmod (Int.fdiv n 9) ((3 : Nat) : Int)) = v ∧ H = H)) (brB (decide (k = 1)) (_ ∧ _ ∧ (Val.int (Int.fmod (Int.fdiv n 9) ((12 : Nat) : Int)) = v ∧ H = H)) (brB (decide (k = 2)) (_ ∧ _ ∧ (Val.int (Int.fmod (Int.fdiv n 9) ((1000000001 : Nat) : Int)) = v ∧ H = H)) (_ ∧ _ ∧ (Val.int (1000000000 - Int.fmod (Int.fdiv n 9) ((2 : Nat) : Int)) = v ∧ H = H)))))
    rw [ha, hb, hc, he]
    refine brB_imp h (fun h => ⟨h, rfl⟩) fun h => brB_imp h (fun h => ⟨by decide, by decide, h, rfl⟩) fun h => brB_imp h (fun h => ⟨by decide, by decide, h, rfl⟩) fun h => brB_imp h (fun h => ⟨by decide, by decide, h, rfl⟩) fun h => ⟨by decide, by decide, h, rfl⟩
  by_cases q : Int.fmod n 9 = 8
  · exact ⟨.none, .inl rfl, fun H => st _ H (by rw [brB_pos q])⟩
  by_cases q0 : k = 0
  · exact ⟨.int a, .inr ⟨a, rfl, by omega, by omega⟩, fun H => st _ H (by rw [brB_neg q, brB_pos q0])⟩
  by_cases q1 : k = 1
  · exact ⟨.int b, .inr ⟨b, rfl, by omega, by omega⟩, fun H => st _ H (by rw [brB_neg q, brB_neg q0, brB_pos q1])⟩
  by_cases q2 : k = 2
  · exact ⟨.int c, .inr ⟨c, rfl, by omega, by omega⟩, fun H => st _ H (by rw [brB_neg q, brB_neg q0, brB_neg q1, brB_pos q2])⟩
  · exact ⟨.int (1000000000 - (e : Int)), .inr ⟨_, rfl, by omega, by omega⟩, fun H => st _ H (by rw [brB_neg q, brB_neg q0, brB_neg q1, brB_neg q2])⟩
theorem l07_number (ns : List Int) (k : Nat) (hk : k ≤ 900) : ∃ n : Int, ∀ (H : Hp), Wp (callF T_07 (d + 2) 12 [.script ns, .int (k : Int)]) H (fun w H' => w = .int n ∧ H' = H) NoE := by
  have sm : small (k : Int) = true := by unfold small; simp; omega
  by_cases q : (k : Int) + 3 < ns.length
  · refine ⟨ns.getD (k + 3) 0, fun H => ?_⟩
    rw [wp_call (g := f12_07) rfl rfl, f12_07]
    simp only [↓wp_none, ↓wp_bool, ↓wp_int, ↓wp_glob, ↓wp_var, ↓wp_bin, ↓wp_not, ↓wp_and, ↓wp_or, ↓wp_cmp, ↓wp_cmp2, ↓wp_sub, ↓wp_oNone, ↓wp_oSome, ↓wp_tup, ↓wp_list, ↓wp_dict, ↓wp_callE, ↓wp_bf, ↓wp_bm, ↓wp_isinst, ↓wp_nil, ↓wp_cons, ↓wp_attr, ↓wp_umeth, ↓wp_new, ↓wps_nil, ↓wps_cons, ↓wps_expr, ↓wps_assign, ↓wps_ret, ↓wps_ite, ↓wps_raise, ↓wps_setattr, ↓wps_setitem, ↓wv_add, ↓wv_sub, ↓wv_mul, ↓wv_fdiv, ↓wv_mod, ↓wv_range, ↓wv_len_script, ↓wv_len_tup, ↓wv_max2, ↓go_eq, ↓go_ne, ↓go_neB, ↓go_isNotB, ↓go_isB, ↓go_lt, ↓go_gt, ↓go_le, ↓go_isNone_none, ↓go_isNone_int, ↓go_isNotNone_none, ↓go_isNotNone_int, ↓wi_int_int, ↓wi_int_bool, ↓wi_int_tup, ↓wi_int_list, ↓wi_bool_int, ↓wi_bool_bool, ↓wi_bool_tup, ↓wi_none_tup, ↓wi_none_int, ↓wi_str_tup, ↓wi_str_int, ↓wi_tup_tup, ↓wi_tup_int, ↓ws_tup0, ↓ws_tup1, ↓ws_tup2, ↓getV_zero, ↓getV_s, ↓getV_n, ↓getV_succ, ↓asBool_bool, ↓getO_some, ↓brB_true, ↓brB_false, ↓brB_not, ↓wp_ret, List.map_cons, List.map_nil, List.cons_append, List.nil_append, List.set_cons_zero, List.set_cons_succ, List.replicate_succ, List.replicate_zero, Bool.not_true, Bool.not_false, and_true, true_and, and_self]
    rw [brB_pos q, show (k : Int) + 3 = ((k + 3 : Nat) : Int) by omega, ws_script (by omega)]
    exact ⟨rfl, rfl⟩
  · refine ⟨7 * cellAt ns 1 + cellAt ns 2 * k * k + 13 * k, fun H => ?_⟩
    rw [wp_call (g := f12_07) rfl rfl, f12_07]
    simp only [↓wp_none, ↓wp_bool, ↓wp_int, ↓wp_glob, ↓wp_var, ↓wp_bin, ↓wp_not, ↓wp_and, ↓wp_or, ↓wp_cmp, ↓wp_cmp2, ↓wp_sub, ↓wp_oNone, ↓wp_oSome, ↓wp_tup, ↓wp_list, ↓wp_dict, ↓wp_callE, ↓wp_bf, ↓wp_bm, ↓wp_isinst, ↓wp_nil, ↓wp_cons, ↓wp_attr, ↓wp_umeth, ↓wp_new, ↓wps_nil, ↓wps_cons, ↓wps_expr, ↓wps_assign, ↓wps_ret, ↓wps_ite, ↓wps_raise, ↓wps_setattr, ↓wps_setitem, ↓wv_add, ↓wv_sub, ↓wv_mul, ↓wv_fdiv, ↓wv_mod, ↓wv_range, ↓wv_len_script, ↓wv_len_tup, ↓wv_max2, ↓go_eq, ↓go_ne, ↓go_neB, ↓go_isNotB, ↓go_isB, ↓go_lt, ↓go_gt, ↓go_le, ↓go_isNone_none, ↓go_isNone_int, ↓go_isNotNone_none, ↓go_isNotNone_int, ↓wi_int_int, ↓wi_int_bool, ↓wi_int_tup, ↓wi_int_list, ↓wi_bool_int, ↓wi_bool_bool, ↓wi_bool_tup, ↓wi_none_tup, ↓wi_none_int, ↓wi_str_tup, ↓wi_str_int, ↓wi_tup_tup, ↓wi_tup_int, ↓ws_tup0, ↓ws_tup1, ↓ws_tup2, ↓getV_zero, ↓getV_s, ↓getV_n, ↓getV_succ, ↓asBool_bool, ↓getO_some, ↓brB_true, ↓brB_false, ↓brB_not, ↓wp_ret, List.map_cons, List.map_nil, List.cons_append, List.nil_append, List.set_cons_zero, List.set_cons_succ, List.replicate_succ, List.replicate_zero, Bool.not_true, Bool.not_false, and_true, true_and, and_self]
    rw [brB_neg q]
    show Wp (callF T_07 (d + 1) 8 [.script ns, .int ((1 : Nat) : Int)]) H _ _
    rw [l07_cell]
    refine ⟨rfl, ?_⟩
    show Wp (callF T_07 (d + 1) 8 [.script ns, .int ((2 : Nat) : Int)]) H _ _
    rw [l07_cell]
    refine ⟨by rw [sm, Bool.or_true], by rw [sm, Bool.or_true], rfl, rfl, rfl⟩
end
end Mine.Pure

-- part L7B
namespace Mine.Pure
open PySem
/- a grid: the list of its rows at l, row i at b + s * i -/
structure GAt (H : Hp) (l b s : Nat) (g : List (List Val)) : Prop where
  top : H[l]? = some (.list ((List.range g.length).map fun i => .loc (b + s * i)))
  row : ∀ i r, g[i]? = some r → H[b + s * i]? = some (.list r)
theorem GAt.ext {H H' : Hp} {l b s : Nat} {g : List (List Val)} (x : GAt H l b s g) (e : Ext H H') : GAt H' l b s g := ⟨e.get x.top, fun i r h => e.get (x.row i r h)⟩
theorem GAt.other {H : Hp} {l b s m : Nat} {g : List (List Val)} (x : GAt H l b s g) (o : HObj) (h1 : m ≠ l) (h2 : ∀ i, i < g.length → m ≠ b + s * i) : GAt (H.set m o) l b s g :=
  ⟨get_other o h1 x.top, fun i r h => get_other o (h2 i (List.getElem?_eq_some_iff.mp h).1) (x.row i r h)⟩
theorem GAt.item {H : Hp} {l b s : Nat} {g : List (List Val)} (x : GAt H l b s g) {i : Nat} (h : i < g.length) : ((List.range g.length).map fun i => Val.loc (b + s * i))[i]? = some (.loc (b + s * i)) := by
  rw [List.getElem?_map, List.getElem?_range h]; rfl
section
variable {T : Tab} {Φ : Funs} {Γ : Env'} {H : Hp} {Q : Val → Hp → Prop} {E : Nat → Hp → Prop}
theorem wp_compN {chk : Hp → Bool} {step : Val → M (Option Val)} {Q : List Val → Hp → Prop} {xs : List Val} (I : Nat → List Val → Hp → Prop) (h0 : I 0 [] H) (hc : ∀ k out H, I k out H → chk H = true)
    (hs : ∀ k x out H, xs[k]? = some x → I k out H → Wp (step x) H (fun r H => I (k + 1) (out ++ r.toList) H) E) (hd : ∀ zs H, I xs.length zs H → Q zs H) : Wp (compL chk step xs) H Q E := by
  refine wp_compL (fun ys out H => ∃ k, ys = xs.drop k ∧ k ≤ xs.length ∧ I k out H) xs [] H ⟨0, rfl, Nat.zero_le _, h0⟩ ?_ ?_ ?_
  · rintro ys out H ⟨k, _, _, h⟩; exact hc k out H h
  · rintro x ys out H ⟨k, e, l, h⟩
    have hx : xs[k]? = some x := by
      have := congrArg (fun z => z[0]?) e
      simpa using this.symm
    refine (hs k x out H hx h).mono ?_ (fun _ _ h => h)
    intro r H h
    refine ⟨k + 1, ?_, (List.getElem?_eq_some_iff.mp hx).1, h⟩
    have := congrArg List.tail e
    simpa using this
  · rintro zs H ⟨k, e, l, h⟩
    have : k = xs.length := by
      have := congrArg List.length e
      simp at this; omega
    subst this; exact hd _ _ h
/- a comprehension whose items leave the heap alone -/
theorem comp_pure {elt it : ME} {xs : List Val} {src : Option Nat} (P : Nat → Val → Prop) (hit : wpE T Φ it Γ H (fun v H' => H' = H ∧ iterOf v H = some (xs, src)) NoE) (hck : chk src xs H = true) (hz : xs.length < lid)
    (he : ∀ k x, xs[k]? = some x → wpE T Φ elt (Γ ++ [some x]) H (fun v H' => P k v ∧ H' = H) NoE) (q : ∀ ys, ys.length = xs.length → (∀ k v, ys[k]? = some v → P k v) → Q (.loc H.length) (H ++ [.list ys])) : wpE T Φ (.comp elt it .none) Γ H Q E := by
  refine wp_comp (wpE_then hit ?_)
  rintro v H' ⟨e, hi⟩
  rw [e, hi, getO_some]
  clear e
  refine wp_compN (fun k out H' => H' = H ∧ out.length = k ∧ ∀ j v, out[j]? = some v → P j v) ⟨rfl, rfl, fun j v h => by cases h⟩ ?_ ?_ ?_
  · rintro k out _ ⟨rfl, _⟩; exact hck
  · rintro k x out _ hx ⟨rfl, hl, hp⟩
    refine wp_step0 (wpE_then (he k x hx) ?_)
    rintro v _ ⟨hv, rfl⟩
    refine ⟨rfl, by rw [List.length_append, hl]; rfl, fun j w hj => ?_⟩
    by_cases c : j < out.length
    · rw [List.getElem?_append_left c] at hj; exact hp j w hj
    · rw [List.getElem?_append_right (by omega)] at hj
      have : j - out.length = 0 := by
        have := (List.getElem?_eq_some_iff.mp hj).1
        simp at this; omega
      rw [this] at hj
      cases hj
      have : j = k := by omega
      rw [this]; exact hv
  · rintro zs _ ⟨rfl, hl, hp⟩
    have hl : zs.length = xs.length := hl
    exact ⟨by omega, q zs hl hp⟩
/- a comprehension whose items make a row each, s new objects an item, the row the last -/
theorem comp_rows {elt it : ME} {xs : List Val} {src : Option Nat} (s : Nat) (P : Nat → List Val → Prop) (hit : wpE T Φ it Γ H (fun v H' => H' = H ∧ iterOf v H = some (xs, src)) NoE) (hck : ∀ K, Ext H K → chk src xs K = true) (hz : xs.length < lid)
    (he : ∀ k x K, xs[k]? = some x → Ext H K → wpE T Φ elt (Γ ++ [some x]) K (fun v K' => ∃ r, P k r ∧ v = .loc (K.length + s) ∧ Ext K K' ∧ K'.length = K.length + s + 1 ∧ K'[K.length + s]? = some (.list r)) NoE)
    (q : ∀ g K, g.length = xs.length → (∀ k r, g[k]? = some r → P k r) → Ext H K → GAt K (H.length + (s + 1) * g.length) (H.length + s) (s + 1) g → K.length = H.length + (s + 1) * g.length + 1 → Q (.loc (H.length + (s + 1) * g.length)) K) : wpE T Φ (.comp elt it .none) Γ H Q E := by
  refine wp_comp (wpE_then hit ?_)
  rintro v H' ⟨e, hi⟩
  rw [e, hi, getO_some]
  clear e
  refine wp_compN (fun k out K => Ext H K ∧ K.length = H.length + (s + 1) * k ∧ out = (List.range k).map (fun i => Val.loc (H.length + s + (s + 1) * i)) ∧ ∃ g : List (List Val), g.length = k ∧ (∀ j r, g[j]? = some r → P j r ∧ K[H.length + s + (s + 1) * j]? = some (.list r)))
    ⟨Ext.refl H, rfl, rfl, [], rfl, fun j r h => by cases h⟩ ?_ ?_ ?_
  · rintro k out K ⟨e, _⟩; exact hck K e
  · rintro k x out K hx ⟨e, hl, rfl, g, hg, hp⟩
    refine wp_step0 (wpE_then (he k x K hx e) ?_)
    rintro v K' ⟨r, pr, rfl, e', hl', hr⟩
    have pos : K.length + s = H.length + s + (s + 1) * k := by omega
    refine ⟨e.trans e', by rw [hl', hl, Nat.mul_succ]; omega, ?_, g ++ [r], by rw [List.length_append, hg]; rfl, fun j w hj => ?_⟩
    · rw [List.range_succ, List.map_append, pos]; rfl
    · by_cases c : j < g.length
      · rw [List.getElem?_append_left c] at hj
        exact ⟨(hp j w hj).1, e'.get (hp j w hj).2⟩
      · rw [List.getElem?_append_right (by omega)] at hj
        have : j - g.length = 0 := by
          have := (List.getElem?_eq_some_iff.mp hj).1
          simp at this; omega
        rw [this] at hj
        cases hj
        have : j = k := by omega
        rw [this, ← pos]; exact ⟨pr, hr⟩
  · rintro zs K ⟨e, hl, rfl, g, hg, hp⟩
    have gl : g.length = xs.length := hg
    refine ⟨by rw [List.length_map, List.length_range]; exact hz, ?_⟩
    rw [hl, ← gl]
    refine q g _ gl (fun k r h => (hp k r h).1) (e.new _) ⟨?_, fun i r h => Ext.get ⟨_, rfl⟩ (hp i r h).2⟩ (by rw [List.length_append, hl, ← gl]; rfl)
    have := get_new K (.list ((List.range g.length).map fun i => Val.loc (H.length + s + (s + 1) * i)))
    rw [hl, ← gl] at this
    exact this
theorem it_rng {it : ME} {n : Nat} (hn : n ≤ 1000) (h : wpE T Φ it Γ H (fun v H' => v = .int (n : Int) ∧ H' = H) NoE) : wpE T Φ (.bf .range (.cons it .nil)) Γ H (fun v H' => H' = H ∧ iterOf v H = some (rngL n, none)) NoE := by
  rw [wp_bf, wp_cons]
  refine wpE_then h ?_
  rintro v _ ⟨rfl, rfl⟩
  rw [wp_nil, wv_range]
  exact ⟨⟨by omega, by omega⟩, rfl, rfl⟩
theorem rngN_get {n k : Nat} {x : Val} (h : (rngL n)[k]? = some x) : x = .int (k : Int) ∧ k < n := by
  obtain ⟨a, b⟩ := rngL_get h
  exact ⟨a, by omega⟩
theorem rngN_len (n : Nat) : (rngL n).length = n := by rw [rngL_len]; omega
/- `[list(row) for row in it]` -/
theorem wp_copy {it : ME} {k l b s : Nat} {g : List (List Val)} (hk : Γ.length = k) (G : GAt H l b s g) (hz : g.length < lid) (hit : wpE T Φ it Γ H (fun v H' => v = .loc l ∧ H' = H) NoE)
    (q : ∀ K, Ext H K → GAt K (H.length + g.length) H.length 1 g → K.length = H.length + g.length + 1 → Q (.loc (H.length + g.length)) K) : wpE T Φ (.comp (.bf .list (.cons (.var k) .nil)) it .none) Γ H Q E := by
  refine comp_rows (xs := (List.range g.length).map fun i => Val.loc (b + s * i)) (src := some l) 0 (fun j r => g[j]? = some r) (wpE_then hit ?_) (fun K e => chk_list (e.get G.top)) (by rw [List.length_map, List.length_range]; exact hz) ?_ ?_
  · rintro v _ ⟨rfl, rfl⟩; exact ⟨rfl, iter_list G.top⟩
  · intro j x K hx e
    rw [List.getElem?_map] at hx
    cases hj : (List.range g.length)[j]? with
    | none => rw [hj] at hx; cases hx
    | some i =>
      rw [hj] at hx
      obtain ⟨lt, ej⟩ := List.getElem?_eq_some_iff.mp hj
      rw [List.getElem_range] at ej
      subst ej
      cases hx
      have lt' : j < g.length := by rw [List.length_range] at lt; exact lt
      have hg : g[j]? = some g[j] := List.getElem?_eq_getElem lt'
      have hr := e.get (G.row j _ hg)
      rw [wp_bf, wp_cons, wp_var, getV_get, List.getElem?_append_right (by omega), hk, Nat.sub_self]
      show Wp (bfV .list [.loc (b + s * j)]) K _ _
      have : bfV .list [.loc (b + s * j)] K = .ok (.loc K.length) (K ++ [.list g[j]]) := by
        show (match itemsOf (.loc (b + s * j)) K with | some xs => M.alloc (.list xs) K | none => .bad) = _
        rw [show itemsOf (.loc (b + s * j)) K = some g[j] by simp only [itemsOf, hr]]; rfl
      exact Wp.of_eq this ⟨_, hg, rfl, ⟨_, rfl⟩, by rw [List.length_append]; rfl, get_new K _⟩
  · intro g' K hl hp e G' hK
    have : g' = g := by
      rw [List.length_map, List.length_range] at hl
      refine List.ext_getElem? fun i => ?_
      cases h : g'[i]? with
      | some r => rw [hp i r h]
      | none =>
        rw [List.getElem?_eq_none_iff] at h
        rw [List.getElem?_eq_none (by omega)]
    subst this
    rw [Nat.zero_add, Nat.one_mul] at G' hK ⊢
    exact q K e G' hK
end
end Mine.Pure

-- part L7C
namespace Mine.Pure
open PySem
/- a grid of heights -/
structure OkG (g : List (List Val)) (r c : Nat) : Prop where
  len : g.length = r
  row : ∀ (i : Nat) (w : List Val), g[i]? = some w → w.length = c ∧ ∀ v ∈ w, HV v
section
variable {T : Tab} {Φ : Funs} {Γ : Env'} {H : Hp} {Q : Val → Hp → Prop} {E : Nat → Hp → Prop} {d : Nat} {QS : Env' → Hp → Prop} {R : Val → Hp → Prop} {ES : Nat → Env' → Hp → Prop}
theorem app_get {α : Type} {l : List α} {x : α} {j : Nat} {w : α} (h : (l ++ [x])[j]? = some w) : l[j]? = some w ∨ (j = l.length ∧ w = x) := by
  by_cases c : j < l.length
  · rw [List.getElem?_append_left c] at h; exact .inl h
  · rw [List.getElem?_append_right (by omega)] at h
    have e : j - l.length = 0 := by
      have := (List.getElem?_eq_some_iff.mp h).1
      simp at this; omega
    rw [e] at h
    cases h
    exact .inr ⟨by omega, rfl⟩
end
end Mine.Pure

-- part L7D
namespace Mine.Pure
open PySem
section
variable {T : Tab} {Φ : Funs} {Γ : Env'} {H : Hp} {Q : Val → Hp → Prop} {E : Nat → Hp → Prop} {d : Nat} {QS : Env' → Hp → Prop} {R : Val → Hp → Prop} {ES : Nat → Env' → Hp → Prop}
noncomputable def rowCells (i c : Nat) : List Val := (List.range c).map fun (j : Nat) => .tup [.int (i : Int), .int (j : Int)]
noncomputable def cells (r c : Nat) : List Val := (List.range r).flatMap fun i => rowCells i c
theorem cells_succ (r c : Nat) : cells (r + 1) c = cells r c ++ rowCells r c := by
  unfold cells; rw [List.range_succ, List.flatMap_append]; simp
theorem rowCells_succ (i c : Nat) : rowCells i (c + 1) = rowCells i c ++ [.tup [.int (i : Int), .int (c : Int)]] := by
  unfold rowCells; rw [List.range_succ, List.map_append]; rfl
theorem cells_len (r c : Nat) : (cells r c).length = r * c := by
  induction r with
  | zero => simp [cells]
  | succ r ih => rw [cells_succ, List.length_append, ih, rowCells, List.length_map, List.length_range, Nat.succ_mul]
theorem set_new (K : Hp) (a b : HObj) : (K ++ [a]).set K.length b = K ++ [b] := by
  rw [List.set_append_right _ _ (Nat.le_refl _), Nat.sub_self]; rfl
theorem l07_cells {r c : Nat} (hr : r ≤ 30) (hc : c ≤ 30) : Wp (callF T_07 (d + 1) 3 [.int (r : Int), .int (c : Int)]) H (fun v H' => v = .loc H.length ∧ H' = H ++ [.list (cells r c)]) NoE := by
  have hlid : lid = 16777216 := rfl
  rw [wp_call (g := f3_07) rfl rfl, f3_07]
  refine wps_asg (fun v H' => v = .loc H.length ∧ H' = H ++ [.list []]) ?_ ?_
  · simp only [↓wp_none, ↓wp_bool, ↓wp_int, ↓wp_glob, ↓wp_var, ↓wp_bin, ↓wp_not, ↓wp_and, ↓wp_or, ↓wp_cmp, ↓wp_cmp2, ↓wp_sub, ↓wp_oNone, ↓wp_oSome, ↓wp_tup, ↓wp_list, ↓wp_dict, ↓wp_callE, ↓wp_bf, ↓wp_bm, ↓wp_isinst, ↓wp_nil, ↓wp_cons, ↓wp_attr, ↓wp_umeth, ↓wp_new, ↓wps_nil, ↓wps_cons, ↓wps_expr, ↓wps_assign, ↓wps_ret, ↓wps_ite, ↓wps_raise, ↓wps_setattr, ↓wps_setitem, ↓wv_add, ↓wv_sub, ↓wv_mul, ↓wv_fdiv, ↓wv_mod, ↓wv_range, ↓wv_len_script, ↓wv_len_tup, ↓wv_max2, ↓go_eq, ↓go_ne, ↓go_neB, ↓go_isNotB, ↓go_isB, ↓go_lt, ↓go_gt, ↓go_le, ↓go_isNone_none, ↓go_isNone_int, ↓go_isNotNone_none, ↓go_isNotNone_int, ↓wi_int_int, ↓wi_int_bool, ↓wi_int_tup, ↓wi_int_list, ↓wi_bool_int, ↓wi_bool_bool, ↓wi_bool_tup, ↓wi_none_tup, ↓wi_none_int, ↓wi_str_tup, ↓wi_str_int, ↓wi_tup_tup, ↓wi_tup_int, ↓ws_tup0, ↓ws_tup1, ↓ws_tup2, ↓getV_zero, ↓getV_s, ↓getV_n, ↓getV_succ, ↓asBool_bool, ↓getO_some, ↓brB_true, ↓brB_false, ↓brB_not, ↓wp_ret, List.map_cons, List.map_nil, List.cons_append, List.nil_append, List.set_cons_zero, List.set_cons_succ, List.replicate_succ, List.replicate_zero, Bool.not_true, Bool.not_false, and_true, true_and, and_self]
  rintro _ H1 ⟨rfl, e⟩
  rw [e]; clear e H1
  refine wps_seq (fun Γ H' => ∃ a b, Γ = [some (.int r), some (.int c), some (.loc H.length), a, b] ∧ H' = H ++ [.list (cells r c)]) ?_ ?_
  · refine wps_eachR (n := r) (fun k Γ K => ∃ a b, Γ = [some (.int r), some (.int c), some (.loc H.length), a, b] ∧ K = H ++ [.list (cells k c)] ∧ k ≤ r) ?_ ?_ ?_ ?_ ?_
    · simp only [↓wp_none, ↓wp_bool, ↓wp_int, ↓wp_glob, ↓wp_var, ↓wp_bin, ↓wp_not, ↓wp_and, ↓wp_or, ↓wp_cmp, ↓wp_cmp2, ↓wp_sub, ↓wp_oNone, ↓wp_oSome, ↓wp_tup, ↓wp_list, ↓wp_dict, ↓wp_callE, ↓wp_bf, ↓wp_bm, ↓wp_isinst, ↓wp_nil, ↓wp_cons, ↓wp_attr, ↓wp_umeth, ↓wp_new, ↓wps_nil, ↓wps_cons, ↓wps_expr, ↓wps_assign, ↓wps_ret, ↓wps_ite, ↓wps_raise, ↓wps_setattr, ↓wps_setitem, ↓wv_add, ↓wv_sub, ↓wv_mul, ↓wv_fdiv, ↓wv_mod, ↓wv_range, ↓wv_len_script, ↓wv_len_tup, ↓wv_max2, ↓go_eq, ↓go_ne, ↓go_neB, ↓go_isNotB, ↓go_isB, ↓go_lt, ↓go_gt, ↓go_le, ↓go_isNone_none, ↓go_isNone_int, ↓go_isNotNone_none, ↓go_isNotNone_int, ↓wi_int_int, ↓wi_int_bool, ↓wi_int_tup, ↓wi_int_list, ↓wi_bool_int, ↓wi_bool_bool, ↓wi_bool_tup, ↓wi_none_tup, ↓wi_none_int, ↓wi_str_tup, ↓wi_str_int, ↓wi_tup_tup, ↓wi_tup_int, ↓ws_tup0, ↓ws_tup1, ↓ws_tup2, ↓getV_zero, ↓getV_s, ↓getV_n, ↓getV_succ, ↓asBool_bool, ↓getO_some, ↓brB_true, ↓brB_false, ↓brB_not, ↓wp_ret, List.map_cons, List.map_nil, List.cons_append, List.nil_append, List.set_cons_zero, List.set_cons_succ, List.replicate_succ, List.replicate_zero, Bool.not_true, Bool.not_false, and_true, true_and, and_self]
    · omega
    · exact ⟨_, _, rfl, rfl, Nat.zero_le _⟩
    · rintro k Γ K hk ⟨a, b, rfl, rfl, _⟩
      refine wps_seq (fun Γ K => ∃ a b, Γ = [some (.int r), some (.int c), some (.loc H.length), a, b] ∧ K = H ++ [.list (cells (k + 1) c)] ∧ k + 1 ≤ r) ?_ (fun Γ K h => by rw [wps_nil]; exact h)
      refine wps_eachR (n := c) (fun j Γ K => ∃ b, Γ = [some (.int r), some (.int c), some (.loc H.length), some (.int k), b] ∧ K = H ++ [.list (cells k c ++ rowCells k j)] ∧ j ≤ c) ?_ ?_ ?_ ?_ ?_
      · simp only [↓wp_none, ↓wp_bool, ↓wp_int, ↓wp_glob, ↓wp_var, ↓wp_bin, ↓wp_not, ↓wp_and, ↓wp_or, ↓wp_cmp, ↓wp_cmp2, ↓wp_sub, ↓wp_oNone, ↓wp_oSome, ↓wp_tup, ↓wp_list, ↓wp_dict, ↓wp_callE, ↓wp_bf, ↓wp_bm, ↓wp_isinst, ↓wp_nil, ↓wp_cons, ↓wp_attr, ↓wp_umeth, ↓wp_new, ↓wps_nil, ↓wps_cons, ↓wps_expr, ↓wps_assign, ↓wps_ret, ↓wps_ite, ↓wps_raise, ↓wps_setattr, ↓wps_setitem, ↓wv_add, ↓wv_sub, ↓wv_mul, ↓wv_fdiv, ↓wv_mod, ↓wv_range, ↓wv_len_script, ↓wv_len_tup, ↓wv_max2, ↓go_eq, ↓go_ne, ↓go_neB, ↓go_isNotB, ↓go_isB, ↓go_lt, ↓go_gt, ↓go_le, ↓go_isNone_none, ↓go_isNone_int, ↓go_isNotNone_none, ↓go_isNotNone_int, ↓wi_int_int, ↓wi_int_bool, ↓wi_int_tup, ↓wi_int_list, ↓wi_bool_int, ↓wi_bool_bool, ↓wi_bool_tup, ↓wi_none_tup, ↓wi_none_int, ↓wi_str_tup, ↓wi_str_int, ↓wi_tup_tup, ↓wi_tup_int, ↓ws_tup0, ↓ws_tup1, ↓ws_tup2, ↓getV_zero, ↓getV_s, ↓getV_n, ↓getV_succ, ↓asBool_bool, ↓getO_some, ↓brB_true, ↓brB_false, ↓brB_not, ↓wp_ret, List.map_cons, List.map_nil, List.cons_append, List.nil_append, List.set_cons_zero, List.set_cons_succ, List.replicate_succ, List.replicate_zero, Bool.not_true, Bool.not_false, and_true, true_and, and_self]
      · omega
      · exact ⟨_, rfl, by simp [rowCells], Nat.zero_le _⟩
      · rintro j Γ K hj ⟨b, rfl, rfl, _⟩
        refine wps_ex (fun K' => K' = H ++ [.list (cells k c ++ rowCells k (j + 1))]) ?_ ?_
        · refine wp_appendE rfl (get_new H _) ?_
          simp only [↓wp_none, ↓wp_bool, ↓wp_int, ↓wp_glob, ↓wp_var, ↓wp_bin, ↓wp_not, ↓wp_and, ↓wp_or, ↓wp_cmp, ↓wp_cmp2, ↓wp_sub, ↓wp_oNone, ↓wp_oSome, ↓wp_tup, ↓wp_list, ↓wp_dict, ↓wp_callE, ↓wp_bf, ↓wp_bm, ↓wp_isinst, ↓wp_nil, ↓wp_cons, ↓wp_attr, ↓wp_umeth, ↓wp_new, ↓wps_nil, ↓wps_cons, ↓wps_expr, ↓wps_assign, ↓wps_ret, ↓wps_ite, ↓wps_raise, ↓wps_setattr, ↓wps_setitem, ↓wv_add, ↓wv_sub, ↓wv_mul, ↓wv_fdiv, ↓wv_mod, ↓wv_range, ↓wv_len_script, ↓wv_len_tup, ↓wv_max2, ↓go_eq, ↓go_ne, ↓go_neB, ↓go_isNotB, ↓go_isB, ↓go_lt, ↓go_gt, ↓go_le, ↓go_isNone_none, ↓go_isNone_int, ↓go_isNotNone_none, ↓go_isNotNone_int, ↓wi_int_int, ↓wi_int_bool, ↓wi_int_tup, ↓wi_int_list, ↓wi_bool_int, ↓wi_bool_bool, ↓wi_bool_tup, ↓wi_none_tup, ↓wi_none_int, ↓wi_str_tup, ↓wi_str_int, ↓wi_tup_tup, ↓wi_tup_int, ↓ws_tup0, ↓ws_tup1, ↓ws_tup2, ↓getV_zero, ↓getV_s, ↓getV_n, ↓getV_succ, ↓asBool_bool, ↓getO_some, ↓brB_true, ↓brB_false, ↓brB_not, ↓wp_ret, List.map_cons, List.map_nil, List.cons_append, List.nil_append, List.set_cons_zero, List.set_cons_succ, List.replicate_succ, List.replicate_zero, Bool.not_true, Bool.not_false, and_true, true_and, and_self]
          refine ⟨_, get_new H _, ?_, ?_⟩
          · rw [List.length_append, cells_len, rowCells, List.length_map, List.length_range]
            have := Nat.mul_le_mul (show k ≤ 30 by omega) hc
            omega
          · rw [set_new, List.append_assoc, ← rowCells_succ]
        · rintro K' rfl
          rw [wps_nil]
          exact ⟨_, rfl, rfl, by omega⟩
      · rintro Γ K ⟨b, rfl, e, _⟩
        rw [Int.toNat_natCast, ← cells_succ] at e
        exact ⟨_, _, rfl, e, by omega⟩
    · rintro Γ K ⟨a, b, e, e', _⟩
      rw [Int.toNat_natCast] at e'
      exact ⟨a, b, e, e'⟩
  rintro Γ K ⟨a, b, rfl, rfl⟩
  simp only [↓wp_none, ↓wp_bool, ↓wp_int, ↓wp_glob, ↓wp_var, ↓wp_bin, ↓wp_not, ↓wp_and, ↓wp_or, ↓wp_cmp, ↓wp_cmp2, ↓wp_sub, ↓wp_oNone, ↓wp_oSome, ↓wp_tup, ↓wp_list, ↓wp_dict, ↓wp_callE, ↓wp_bf, ↓wp_bm, ↓wp_isinst, ↓wp_nil, ↓wp_cons, ↓wp_attr, ↓wp_umeth, ↓wp_new, ↓wps_nil, ↓wps_cons, ↓wps_expr, ↓wps_assign, ↓wps_ret, ↓wps_ite, ↓wps_raise, ↓wps_setattr, ↓wps_setitem, ↓wv_add, ↓wv_sub, ↓wv_mul, ↓wv_fdiv, ↓wv_mod, ↓wv_range, ↓wv_len_script, ↓wv_len_tup, ↓wv_max2, ↓go_eq, ↓go_ne, ↓go_neB, ↓go_isNotB, ↓go_isB, ↓go_lt, ↓go_gt, ↓go_le, ↓go_isNone_none, ↓go_isNone_int, ↓go_isNotNone_none, ↓go_isNotNone_int, ↓wi_int_int, ↓wi_int_bool, ↓wi_int_tup, ↓wi_int_list, ↓wi_bool_int, ↓wi_bool_bool, ↓wi_bool_tup, ↓wi_none_tup, ↓wi_none_int, ↓wi_str_tup, ↓wi_str_int, ↓wi_tup_tup, ↓wi_tup_int, ↓ws_tup0, ↓ws_tup1, ↓ws_tup2, ↓getV_zero, ↓getV_s, ↓getV_n, ↓getV_succ, ↓asBool_bool, ↓getO_some, ↓brB_true, ↓brB_false, ↓brB_not, ↓wp_ret, List.map_cons, List.map_nil, List.cons_append, List.nil_append, List.set_cons_zero, List.set_cons_succ, List.replicate_succ, List.replicate_zero, Bool.not_true, Bool.not_false, and_true, true_and, and_self]
/- a zip over two lists -/
end
end Mine.Pure

-- part L7E
namespace Mine.Pure
open PySem
section
variable {T : Tab} {Φ : Funs} {Γ : Env'} {H : Hp} {Q : Val → Hp → Prop} {E : Nat → Hp → Prop} {d : Nat} {QS : Env' → Hp → Prop} {R : Val → Hp → Prop} {ES : Nat → Env' → Hp → Prop}
theorem wa_attr3 {i c n : Nat} {fs : List (Nat × Val)} {v : Val} (h : H[i]? = some (.inst c fs)) (hf : fs.lookup n = some v) : Wp (attrV (.loc i) n) H Q E = Q v H := by
  have : attrV (.loc i) n H = .ok v H := by
    unfold attrV; rw [look_at]; simp only [h, hf]
  unfold Wp; rw [this]
theorem wa_setattr3 {i c n : Nat} {fs : List (Nat × Val)} {v : Val} {Q : Unit → Hp → Prop} (h : H[i]? = some (.inst c fs)) : Wp (setattrV (.loc i) n v) H Q E = Q () (H.set i (.inst c (fput fs n v))) := by
  have : setattrV (.loc i) n v H = .ok () (H.set i (.inst c (fput fs n v))) := by
    unfold setattrV; simp only [h]
  unfold Wp; rw [this]
theorem wa_setitem3 {l : Nat} {xs : List Val} {k : Int} {v : Val} {Q : Unit → Hp → Prop} (h : H[l]? = some (.list xs)) (h0 : 0 ≤ k) (h1 : k < xs.length) : Wp (setitemV (.loc l) (.int k) v) H Q E = Q () (H.set l (.list (xs.set k.toNat v))) := by
  have : setitemV (.loc l) (.int k) v H = .ok () (H.set l (.list (xs.set k.toNat v))) := by
    unfold setitemV; simp only [h]; exact if_pos ⟨h0, h1⟩
  unfold Wp; rw [this]
theorem ws_eq3 {l : Nat} {xs : List Val} (h : H[l]? = some (.list xs)) {k : Nat} {v : Val} (hk : xs[k]? = some v) : Wp (subV (.loc l) (.int (k : Int))) H Q E = Q v H := by
  have lt := (List.getElem?_eq_some_iff.mp hk).1
  have : subV (.loc l) (.int (k : Int)) H = .ok v H := by
    unfold subV; rw [look_at]
    simp only [h, place_nat k xs.length lt, Option.bind_some, hk]
  unfold Wp; rw [this]
theorem wu_meth3 {i c m k : Nat} {fs : List (Nat × Val)} {Q : Nat → Hp → Prop} (h : H[i]? = some (.inst c fs)) (hk : T.meth c m = some k) : Wp (umethOf T (.loc i) m) H Q E = Q k H := by
  have : umethOf T (.loc i) m H = .ok k H := by
    unfold umethOf; rw [look_at]; simp only [h, hk]
  unfold Wp; rw [this]
/- a loop over a list -/
theorem wps_listL {i l : Nat} {it : ME} {body : MSs} {xs : List Val} (I : Nat → Env' → Hp → Prop) (hit : wpE T Φ it Γ H (fun v H' => v = .loc l ∧ H' = H) NoE) (hl : H[l]? = some (.list xs)) (h0 : I 0 Γ H) (hx : ∀ k Γ K, I k Γ K → K[l]? = some (.list xs))
    (hs : ∀ k x Γ K, xs[k]? = some x → I k Γ K → wpSs T Φ body (Γ.set i (some x)) K (I (k + 1)) R NoX) (hd : ∀ Γ K, I xs.length Γ K → QS Γ K) : wpS T Φ (.each i it body) Γ H QS R ES := by
  refine wps_each (wpE_then hit ?_)
  rintro v H' ⟨rfl, e⟩
  rw [e, getO_of (iter_list hl)]
  exact wps_eachN I h0 hd (fun k Γ K _ h => chk_list (hx k Γ K h)) fun k x Γ K hx h => ⟨_, rfl, hs k x Γ K hx h⟩
theorem row_of {l b s r c : Nat} {g : List (List Val)} {k : Nat} {x : Val} (og : OkG g r c) (G : GAt H l b s g) (hx : ((List.range g.length).map fun i => Val.loc (b + s * i))[k]? = some x) : ∃ w, x = .loc (b + s * k) ∧ g[k]? = some w ∧ H[b + s * k]? = some (.list w) ∧ w.length = c ∧ ∀ v ∈ w, HV v := by
  have lt : k < g.length := by have := (List.getElem?_eq_some_iff.mp hx).1; simpa using this
  rw [G.item lt] at hx
  cases hx
  have hg : g[k]? = some g[k] := List.getElem?_eq_getElem lt
  exact ⟨g[k], rfl, hg, G.row k _ hg, og.row k _ hg⟩
theorem rw_len {l n : Nat} {w : List Val} {k : Nat} {Γ : Env'} (g : Γ[k]? = some (some (.loc l))) (h : H[l]? = some (.list w)) (e : w.length = n) (h1 : 1 ≤ n) (h2 : n ≤ 30) : wpE T_07 (callF T_07 (d + 1)) (.or (.not (.isinst (.var k) .list)) (.not (.call 0 (.cons (.bf .len (.cons (.var k) .nil)) (.cons (.int 1) (.cons (.glob 0) .nil)))))) Γ H (fun v K => v = .bool false ∧ H = K) NoE := by
  rw [wp_or, wp_not, wp_isinst, wp_var, getV_of g, wi_list _ _ h, asBool_bool]
  rw [asBool_bool]
  show wpE _ _ _ _ _ _ _
  rw [wp_not, wp_callE, wp_cons, wp_bf, wp_cons, wp_var, getV_of g, wp_nil, wv_len_loc h, wp_cons, wp_int, wp_cons, wp_glob, globs_0, getO_some, wp_nil, e, l07_whole (by omega) (by omega)]
  exact ⟨rfl, rfl⟩
theorem rw_each {l b s r c : Nat} {g : List (List Val)} {x1 : Option Val} (hS : OkS r c) (og : OkG g r c) (G : GAt H l b s g) (q : ∀ a, QS [some (.loc l), a] H) : wpS T_07 (callF T_07 (d + 1)) (.each 1 (.var 0) (.cons (.ite (.or (.not (.isinst (.var 1) .list)) (.not (.call 0 (.cons (.bf .len (.cons (.var 1) .nil)) (.cons (.int 1) (.cons (.glob 0) .nil)))))) (.cons (.raise 1 "a row is a list of heights") .nil) .nil) .nil)) [some (.loc l), x1] H QS R NoX := by
  unfold OkS at hS
  obtain ⟨I, hI⟩ := hide3 (fun (k : Nat) (Γ : Env') (K : Hp) => H = K ∧ ∃ a, Γ = [some (.loc l), a])
  refine wps_listL I ⟨rfl, rfl⟩ G.top ((hI _ _ _).mpr ⟨rfl, _, rfl⟩) (fun k Γ K h => by rw [← ((hI _ _ _).mp h).1]; exact G.top) ?_ ?_
  · intro k x Γ K hx h
    obtain ⟨rfl, a, rfl⟩ := (hI _ _ _).mp h
    obtain ⟨w, rfl, hg, hr, lw, _⟩ := row_of og G hx
    exact wps_no _ (rw_len rfl hr lw (by omega) (by omega)) fun K h => (hI _ _ _).mpr ⟨h, _, rfl⟩
  · intro Γ K h
    obtain ⟨rfl, a, rfl⟩ := (hI _ _ _).mp h
    exact q a
theorem rw_all {l b s r c : Nat} {g : List (List Val)} {x1 : Option Val} (hS : OkS r c) (og : OkG g r c) (G : GAt H l b s g) (q : ∀ a, QS [some (.loc l), a] H) : wpS T_07 (callF T_07 (d + 1)) (.each 1 (.var 0) (.cons (.ite (.cmp .ne (.bf .len (.cons (.var 1) .nil)) (.bf .len (.cons (.sub (.var 0) (.int 0)) .nil))) (.cons (.raise 1 "all rows are as long") .nil) .nil) .nil)) [some (.loc l), x1] H QS R NoX := by
  unfold OkS at hS
  obtain ⟨x0, hx0⟩ : ∃ x, ((List.range g.length).map fun i => Val.loc (b + s * i))[0]? = some x := ⟨_, List.getElem?_eq_getElem (by rw [List.length_map, List.length_range, og.len]; omega)⟩
  obtain ⟨w0, rfl, _, hr0, lw0, _⟩ := row_of og G hx0
  obtain ⟨I, hI⟩ := hide3 (fun (k : Nat) (Γ : Env') (K : Hp) => H = K ∧ ∃ a, Γ = [some (.loc l), a])
  refine wps_listL I ⟨rfl, rfl⟩ G.top ((hI _ _ _).mpr ⟨rfl, _, rfl⟩) (fun k Γ K h => by rw [← ((hI _ _ _).mp h).1]; exact G.top) ?_ ?_
  · clear q
    intro k x Γ K hx h
    obtain ⟨rfl, a, rfl⟩ := (hI _ _ _).mp h
    obtain ⟨w, rfl, hg, hr, lw, _⟩ := row_of og G hx
    refine wps_no (fun K => H = K) ?_ fun K h => (hI _ _ _).mpr ⟨h, _, rfl⟩
    show Wp (bfV .len [.loc (b + s * k)]) H _ _
    rw [wv_len_loc hr]
    show Wp (subV (.loc l) (.int ((0 : Nat) : Int))) H _ _
    rw [ws_eq3 G.top hx0]
    show Wp (bfV .len [.loc (b + s * 0)]) H _ _
    rw [wv_len_loc hr0, lw, lw0, go_ne, decide_eq_true rfl]
    exact ⟨rfl, rfl⟩
  · intro Γ K h
    obtain ⟨rfl, a, rfl⟩ := (hI _ _ _).mp h
    exact q a
theorem l07_rows {l b s r c : Nat} {g : List (List Val)} (hS : OkS r c) (og : OkG g r c) (G : GAt H l b s g) : Wp (callF T_07 (d + 2) 5 [.loc l]) H (fun v H' => v = .none ∧ H' = H) NoE := by
  have hS' := hS
  unfold OkS at hS'
  rw [wp_call (g := f5_07) rfl rfl, f5_07]
  refine wps_no _ (rw_len rfl G.top (show _ = r by rw [List.length_map, List.length_range, og.len]) hS'.1 hS'.2.1) ?_
  rintro _ rfl
  rw [wps_cons]
  refine rw_each hS og G fun a => ?_
  rw [wps_cons]
  exact rw_all hS og G fun a => ⟨rfl, rfl⟩
/- a Land -/
structure LandAt (H : Hp) (o r c lg b s ls : Nat) (g : List (List Val)) (es : List (Key × Val)) : Prop where
  inst : ∃ fs, H[o]? = some (.inst 5 fs) ∧ fs.lookup 0 = some (.int (r : Int)) ∧ fs.lookup 1 = some (.int (c : Int)) ∧ fs.lookup 2 = some (.loc lg) ∧ fs.lookup 3 = some (.loc ls)
  grid : GAt H lg b s g
  sinks : H[ls]? = some (.dict es)
theorem LandAt.ext {H' : Hp} {o r c lg b s ls : Nat} {g : List (List Val)} {es : List (Key × Val)} (x : LandAt H o r c lg b s ls g es) (e : Ext H H') : LandAt H' o r c lg b s ls g es := by
  obtain ⟨fs, h1, h2⟩ := x.inst
  exact ⟨⟨fs, e.get h1, h2⟩, x.grid.ext e, e.get x.sinks⟩
/- all but one object stands -/
structure But (l : Nat) (H H' : Hp) : Prop where
  keep : ∀ m ob, m ≠ l → H[m]? = some ob → H'[m]? = some ob
  len : H.length ≤ H'.length
theorem ini_loop {o l b s r c : Nat} {g : List (List Val)} (og : OkG g r c) (G : GAt H l b s g) (q : ∀ a b, QS [some (.loc o), some (.loc l), a, b] H) :
    wpS T_07 (callF T_07 (d + 2)) (.each 2 (.var 1) (.cons (.each 3 (.var 2) (.cons (.ite (.not (.call 4 (.cons (.var 3) .nil))) (.cons (.raise 2 "a height or None is wanted") .nil) .nil) .nil)) .nil)) [some (.loc o), some (.loc l), none, none] H QS R NoX := by
  obtain ⟨I, hI⟩ := hide3 (fun (k : Nat) (Γ : Env') (K : Hp) => H = K ∧ ∃ a b, Γ = [some (.loc o), some (.loc l), a, b])
  refine wps_listL I ⟨rfl, rfl⟩ G.top ((hI _ _ _).mpr ⟨rfl, _, _, rfl⟩) (fun k Γ K h => by rw [← ((hI _ _ _).mp h).1]; exact G.top) ?_ ?_
  · clear q
    intro k x Γ K hx h
    obtain ⟨rfl, a, b', rfl⟩ := (hI _ _ _).mp h
    obtain ⟨w, rfl, hg, hr, lw, hw⟩ := row_of og G hx
    rw [wps_cons]
    refine wps_listL I ⟨rfl, rfl⟩ hr ((hI _ _ _).mpr ⟨rfl, _, _, rfl⟩) (fun k Γ K h => by rw [← ((hI _ _ _).mp h).1]; exact hr) ?_ (fun Γ K h => (hI _ _ _).mpr ((hI _ _ _).mp h))
    intro j v Γ K2 hv h
    obtain ⟨rfl, a, b', rfl⟩ := (hI _ _ _).mp h
    refine wps_no (fun K => H = K) ?_ (fun K h => (hI _ _ _).mpr ⟨h, _, _, rfl⟩)
    rw [wp_not, wp_callE, wp_cons, wp_var, getV_of (v := v) rfl, wp_nil, l07_height (hw v (List.mem_of_getElem? hv))]
    exact ⟨rfl, rfl⟩
  · intro Γ K h
    obtain ⟨rfl, a, b, rfl⟩ := (hI _ _ _).mp h
    exact q a b
theorem l07_init {o l b s r c : Nat} {g : List (List Val)} (hS : OkS r c) (og : OkG g r c) (G : GAt H l b s g) (ho : H[o]? = some (.inst 5 [])) :
    Wp (callF T_07 (d + 3) 20 [.loc o, .loc l]) H (fun v H' => v = .none ∧ But o H H' ∧ ∃ lg b' ls, LandAt H' o r c lg b' 1 ls g [] ∧ H.length ≤ b' ∧ lg = b' + r ∧ H.length ≤ ls) NoE := by
  have hS' := hS
  unfold OkS at hS'
  have len : ((List.range g.length).map fun i => Val.loc (b + s * i)).length = r := by rw [List.length_map, List.length_range, og.len]
  have ne : ∀ k w, g[k]? = some w → o ≠ b + s * k := fun k w hg q => by have := G.row k w hg; rw [← q, ho] at this; cases this
  have nl : o ≠ l := fun q => by have := G.top; rw [← q, ho] at this; cases this
  have G1 : ∀ ob, GAt (H.set o ob) l b s g := fun ob => G.other ob nl fun i hi => ne i g[i] (List.getElem?_eq_getElem hi)
  rw [wp_call (g := f20_07) rfl rfl, f20_07]
  refine wps_ex (fun K => H = K) ?_ ?_
  · exact (l07_rows hS og G).then fun v H' h => h.2.symm
  rintro _ rfl
  rw [wps_cons]
  refine ini_loop og G fun a b' => ?_
  obtain ⟨x0, hx0⟩ : ∃ x, ((List.range g.length).map fun i => Val.loc (b + s * i))[0]? = some x := ⟨_, List.getElem?_eq_getElem (by rw [len]; omega)⟩
  obtain ⟨w0, rfl, hg0, hr0, lw0, _⟩ := row_of og G hx0
  show Wp (bfV .len [.loc l]) H _ _
  rw [wv_len_loc G.top, len]
  show Wp (setattrV (.loc o) 0 (.int (r : Int))) H _ _
  rw [wa_setattr3 ho]
  show Wp (subV (.loc l) (.int ((0 : Nat) : Int))) _ _ _
  rw [ws_eq3 (G1 _).top hx0]
  show Wp (bfV .len [.loc (b + s * 0)]) _ _ _
  rw [wv_len_loc ((G1 _).row 0 w0 hg0), lw0]
  show Wp (setattrV (.loc o) 1 (.int (c : Int))) _ _ _
  rw [wa_setattr3 (get_set _ ho), List.set_set]
  show wpE T_07 _ (.comp (.bf .list (.cons (.var 4) .nil)) (.var 1) .none) [some (.loc o), some (.loc l), a, b'] _ _ _
  refine wp_copy (l := l) (b := b) (s := s) (g := g) rfl (G1 _) (by rw [og.len]; show r < 16777216; omega) ⟨rfl, rfl⟩ ?_
  intro K2 e2 G2 hK2
  rw [List.length_set] at G2 hK2 ⊢
  have o2 := e2.get (get_set (HObj.inst 5 [(0, Val.int (r : Int)), (1, Val.int (c : Int))]) ho)
  have lo : o < H.length := lt_of_get ho
  have e3 : ∀ (X : Hp) (ob : HObj), Ext X (X ++ [ob]) := fun X ob => ⟨_, rfl⟩
  show Wp (setattrV (.loc o) 2 (.loc (H.length + g.length))) K2 _ _
  rw [wa_setattr3 o2]
  show Wp (setattrV (.loc o) 3 _) (_ ++ [.dict []]) _ _
  rw [wa_setattr3 ((e3 _ _).get (get_set _ o2))]
  have G3 : ∀ (X : Hp) (ob : HObj), GAt X (H.length + g.length) H.length 1 g → GAt (X.set o ob) (H.length + g.length) H.length 1 g := fun X ob x => x.other ob (by omega) fun i _ => by omega
  refine ⟨rfl, ⟨fun m ob hm h => ?_, ?_⟩, H.length + g.length, H.length, K2.length, ⟨⟨_, get_set _ ((e3 _ _).get (get_set _ o2)), rfl, rfl, rfl, ?_⟩, G3 _ _ ((G3 _ _ G2).ext (e3 _ _)), ?_⟩, Nat.le_refl _, by rw [og.len], by omega⟩
  · exact get_other _ (Ne.symm hm) ((e3 _ _).get (get_other _ (Ne.symm hm) (e2.get (get_other _ (Ne.symm hm) h))))
  · rw [List.length_set, List.length_append, List.length_set]; omega
  · rw [List.length_set]; rfl
  · refine get_other _ (by omega) ?_
    have := get_new (K2.set o (HObj.inst 5 (fput [(0, Val.int (r : Int)), (1, Val.int (c : Int))] 2 (Val.loc (H.length + g.length))))) (.dict [])
    rw [List.length_set] at this
    exact this
end
end Mine.Pure

-- part L7F
namespace Mine.Pure
open PySem
section
variable {T : Tab} {Φ : Funs} {Γ : Env'} {H : Hp} {Q : Val → Hp → Prop} {E : Nat → Hp → Prop} {d : Nat} {QS : Env' → Hp → Prop} {R : Val → Hp → Prop} {ES : Nat → Env' → Hp → Prop}
theorem ext_of {H H' : Hp} (h : ∀ (m : Nat) (ob : HObj), H[m]? = some ob → H'[m]? = some ob) : Ext H H' := by
  refine ⟨H'.drop H.length, List.ext_getElem? fun i => ?_⟩
  by_cases c : i < H.length
  · rw [List.getElem?_append_left c, List.getElem?_eq_getElem c]
    exact h i _ (List.getElem?_eq_getElem c)
  · rw [List.getElem?_append_right (by omega), List.getElem?_drop, show H.length + (i - H.length) = i by omega]
theorem wn_land {l b s r c : Nat} {g : List (List Val)} (hS : OkS r c) (og : OkG g r c) (G : GAt H l b s g) : Wp (newV T_07 (callF T_07 (d + 3)) 5 [.loc l]) H (fun v H' => v = .loc H.length ∧ Ext H H' ∧ ∃ lg b' ls, LandAt H' H.length r c lg b' 1 ls g [] ∧ H.length < b' ∧ lg = b' + r ∧ H.length < ls) NoE := by
  show Wp ((M.alloc (.inst 5 [])).bnd fun o => (callF T_07 (d + 3) 20 [o, .loc l]).bnd fun r => match r with
    | .none => .ret o
    | _ => .bad) H _ _
  rw [wp_bnd, wp_alloc, wp_bnd]
  have e0 : Ext H (H ++ [HObj.inst 5 []]) := ⟨_, rfl⟩
  refine (l07_init hS og (G.ext e0) (get_new H _)).then ?_
  rintro v H' ⟨rfl, bt, lg, b', ls, L, h1, h2, h3⟩
  rw [List.length_append, List.length_singleton] at h1 h3
  refine ⟨rfl, ext_of fun m ob hm => bt.keep m ob (Nat.ne_of_lt (lt_of_get hm)) (e0.get hm), lg, b', ls, L, h1, h2, h3⟩
theorem l07_heights {o r c lg b s ls : Nat} {g : List (List Val)} {es : List (Key × Val)} (og : OkG g r c) (hr : r ≤ 30) (L : LandAt H o r c lg b s ls g es) : Wp (callF T_07 (d + 1) 25 [.loc o]) H (fun v H' => v = .loc (H.length + r) ∧ Ext H H' ∧ GAt H' (H.length + r) H.length 1 g) NoE := by
  have hlid : lid = 16777216 := rfl
  obtain ⟨fs, h0, h1, h2, h3, h4⟩ := L.inst
  rw [wp_call (g := f25_07) rfl rfl, f25_07]
  simp only [↓wp_none, ↓wp_bool, ↓wp_int, ↓wp_glob, ↓wp_var, ↓wp_bin, ↓wp_not, ↓wp_and, ↓wp_or, ↓wp_cmp, ↓wp_cmp2, ↓wp_sub, ↓wp_oNone, ↓wp_oSome, ↓wp_tup, ↓wp_list, ↓wp_dict, ↓wp_callE, ↓wp_bf, ↓wp_bm, ↓wp_isinst, ↓wp_nil, ↓wp_cons, ↓wp_attr, ↓wp_umeth, ↓wp_new, ↓wps_nil, ↓wps_cons, ↓wps_expr, ↓wps_assign, ↓wps_ret, ↓wps_ite, ↓wps_raise, ↓wps_setattr, ↓wps_setitem, ↓wv_add, ↓wv_sub, ↓wv_mul, ↓wv_fdiv, ↓wv_mod, ↓wv_range, ↓wv_len_script, ↓wv_len_tup, ↓wv_max2, ↓go_eq, ↓go_ne, ↓go_neB, ↓go_isNotB, ↓go_isB, ↓go_lt, ↓go_gt, ↓go_le, ↓go_isNone_none, ↓go_isNone_int, ↓go_isNotNone_none, ↓go_isNotNone_int, ↓wi_int_int, ↓wi_int_bool, ↓wi_int_tup, ↓wi_int_list, ↓wi_bool_int, ↓wi_bool_bool, ↓wi_bool_tup, ↓wi_none_tup, ↓wi_none_int, ↓wi_str_tup, ↓wi_str_int, ↓wi_tup_tup, ↓wi_tup_int, ↓ws_tup0, ↓ws_tup1, ↓ws_tup2, ↓getV_zero, ↓getV_s, ↓getV_n, ↓getV_succ, ↓asBool_bool, ↓getO_some, ↓brB_true, ↓brB_false, ↓brB_not, ↓wp_ret, List.map_cons, List.map_nil, List.cons_append, List.nil_append, List.set_cons_zero, List.set_cons_succ, List.replicate_succ, List.replicate_zero, Bool.not_true, Bool.not_false, and_true, true_and, and_self]
  refine wp_copy (l := lg) (b := b) (s := s) (g := g) rfl L.grid (by rw [og.len]; omega) ?_ ?_
  · simp only [↓wp_none, ↓wp_bool, ↓wp_int, ↓wp_glob, ↓wp_var, ↓wp_bin, ↓wp_not, ↓wp_and, ↓wp_or, ↓wp_cmp, ↓wp_cmp2, ↓wp_sub, ↓wp_oNone, ↓wp_oSome, ↓wp_tup, ↓wp_list, ↓wp_dict, ↓wp_callE, ↓wp_bf, ↓wp_bm, ↓wp_isinst, ↓wp_nil, ↓wp_cons, ↓wp_attr, ↓wp_umeth, ↓wp_new, ↓wps_nil, ↓wps_cons, ↓wps_expr, ↓wps_assign, ↓wps_ret, ↓wps_ite, ↓wps_raise, ↓wps_setattr, ↓wps_setitem, ↓wv_add, ↓wv_sub, ↓wv_mul, ↓wv_fdiv, ↓wv_mod, ↓wv_range, ↓wv_len_script, ↓wv_len_tup, ↓wv_max2, ↓go_eq, ↓go_ne, ↓go_neB, ↓go_isNotB, ↓go_isB, ↓go_lt, ↓go_gt, ↓go_le, ↓go_isNone_none, ↓go_isNone_int, ↓go_isNotNone_none, ↓go_isNotNone_int, ↓wi_int_int, ↓wi_int_bool, ↓wi_int_tup, ↓wi_int_list, ↓wi_bool_int, ↓wi_bool_bool, ↓wi_bool_tup, ↓wi_none_tup, ↓wi_none_int, ↓wi_str_tup, ↓wi_str_int, ↓wi_tup_tup, ↓wi_tup_int, ↓ws_tup0, ↓ws_tup1, ↓ws_tup2, ↓getV_zero, ↓getV_s, ↓getV_n, ↓getV_succ, ↓asBool_bool, ↓getO_some, ↓brB_true, ↓brB_false, ↓brB_not, ↓wp_ret, List.map_cons, List.map_nil, List.cons_append, List.nil_append, List.set_cons_zero, List.set_cons_succ, List.replicate_succ, List.replicate_zero, Bool.not_true, Bool.not_false, and_true, true_and, and_self]
    rw [wa_attr3 h0 h3]
    exact ⟨rfl, rfl⟩
  · intro K e G _
    rw [og.len] at G ⊢
    exact ⟨rfl, e, G⟩
/- the drains -/
noncomputable def inD (es : List (Key × Val)) (x : Val) : Bool := match keyOf x with
  | some k => (dget es k).isSome
  | none => false
theorem cell_mem {r c : Nat} {x : Val} (h : x ∈ cells r c) : ∃ i j : Nat, x = .tup [.int (i : Int), .int (j : Int)] ∧ i < r ∧ j < c := by
  unfold cells rowCells at h
  obtain ⟨i, hi, h⟩ := List.mem_flatMap.mp h
  obtain ⟨j, hj, h⟩ := List.mem_map.mp h
  exact ⟨i, j, h.symm, List.mem_range.mp hi, List.mem_range.mp hj⟩
theorem in_dict {ls : Nat} {es : List (Key × Val)} {i j : Int} (h : H[ls]? = some (.dict es)) : cmpV .isin (.tup [.int i, .int j]) (.loc ls) H = some (inD es (.tup [.int i, .int j])) := by
  have e : cmpV .isin (.tup [.int i, .int j]) (.loc ls) H = inV (.tup [.int i, .int j]) (.loc ls) H := rfl
  rw [e]
  unfold inV
  simp only [h]
  rfl
theorem take_snoc {α : Type} {l : List α} {k : Nat} {x : α} (h : l[k]? = some x) : l.take (k + 1) = l.take k ++ [x] := by
  rw [List.take_add_one, h]; rfl
theorem l07_drains {o r c lg b s ls : Nat} {g : List (List Val)} {es : List (Key × Val)} (hr : r ≤ 30) (hc : c ≤ 30) (L : LandAt H o r c lg b s ls g es) : Wp (callF T_07 (d + 2) 24 [.loc o]) H (fun v H' => ∃ m, v = .loc m ∧ H.length ≤ m ∧ Ext H H' ∧ H'[m]? = some (.list ((cells r c).filter (inD es)))) NoE := by
  have hlid : lid = 16777216 := rfl
  obtain ⟨fs, h0, h1, h2, h3, h4⟩ := L.inst
  rw [wp_call (g := f24_07) rfl rfl, f24_07]
  simp only [↓wp_none, ↓wp_bool, ↓wp_int, ↓wp_glob, ↓wp_var, ↓wp_bin, ↓wp_not, ↓wp_and, ↓wp_or, ↓wp_cmp, ↓wp_cmp2, ↓wp_sub, ↓wp_oNone, ↓wp_oSome, ↓wp_tup, ↓wp_list, ↓wp_dict, ↓wp_callE, ↓wp_bf, ↓wp_bm, ↓wp_isinst, ↓wp_nil, ↓wp_cons, ↓wp_attr, ↓wp_umeth, ↓wp_new, ↓wps_nil, ↓wps_cons, ↓wps_expr, ↓wps_assign, ↓wps_ret, ↓wps_ite, ↓wps_raise, ↓wps_setattr, ↓wps_setitem, ↓wv_add, ↓wv_sub, ↓wv_mul, ↓wv_fdiv, ↓wv_mod, ↓wv_range, ↓wv_len_script, ↓wv_len_tup, ↓wv_max2, ↓go_eq, ↓go_ne, ↓go_neB, ↓go_isNotB, ↓go_isB, ↓go_lt, ↓go_gt, ↓go_le, ↓go_isNone_none, ↓go_isNone_int, ↓go_isNotNone_none, ↓go_isNotNone_int, ↓wi_int_int, ↓wi_int_bool, ↓wi_int_tup, ↓wi_int_list, ↓wi_bool_int, ↓wi_bool_bool, ↓wi_bool_tup, ↓wi_none_tup, ↓wi_none_int, ↓wi_str_tup, ↓wi_str_int, ↓wi_tup_tup, ↓wi_tup_int, ↓ws_tup0, ↓ws_tup1, ↓ws_tup2, ↓getV_zero, ↓getV_s, ↓getV_n, ↓getV_succ, ↓asBool_bool, ↓getO_some, ↓brB_true, ↓brB_false, ↓brB_not, ↓wp_ret, List.map_cons, List.map_nil, List.cons_append, List.nil_append, List.set_cons_zero, List.set_cons_succ, List.replicate_succ, List.replicate_zero, Bool.not_true, Bool.not_false, and_true, true_and, and_self]
  refine wp_comp ?_
  simp only [↓wp_none, ↓wp_bool, ↓wp_int, ↓wp_glob, ↓wp_var, ↓wp_bin, ↓wp_not, ↓wp_and, ↓wp_or, ↓wp_cmp, ↓wp_cmp2, ↓wp_sub, ↓wp_oNone, ↓wp_oSome, ↓wp_tup, ↓wp_list, ↓wp_dict, ↓wp_callE, ↓wp_bf, ↓wp_bm, ↓wp_isinst, ↓wp_nil, ↓wp_cons, ↓wp_attr, ↓wp_umeth, ↓wp_new, ↓wps_nil, ↓wps_cons, ↓wps_expr, ↓wps_assign, ↓wps_ret, ↓wps_ite, ↓wps_raise, ↓wps_setattr, ↓wps_setitem, ↓wv_add, ↓wv_sub, ↓wv_mul, ↓wv_fdiv, ↓wv_mod, ↓wv_range, ↓wv_len_script, ↓wv_len_tup, ↓wv_max2, ↓go_eq, ↓go_ne, ↓go_neB, ↓go_isNotB, ↓go_isB, ↓go_lt, ↓go_gt, ↓go_le, ↓go_isNone_none, ↓go_isNone_int, ↓go_isNotNone_none, ↓go_isNotNone_int, ↓wi_int_int, ↓wi_int_bool, ↓wi_int_tup, ↓wi_int_list, ↓wi_bool_int, ↓wi_bool_bool, ↓wi_bool_tup, ↓wi_none_tup, ↓wi_none_int, ↓wi_str_tup, ↓wi_str_int, ↓wi_tup_tup, ↓wi_tup_int, ↓ws_tup0, ↓ws_tup1, ↓ws_tup2, ↓getV_zero, ↓getV_s, ↓getV_n, ↓getV_succ, ↓asBool_bool, ↓getO_some, ↓brB_true, ↓brB_false, ↓brB_not, ↓wp_ret, List.map_cons, List.map_nil, List.cons_append, List.nil_append, List.set_cons_zero, List.set_cons_succ, List.replicate_succ, List.replicate_zero, Bool.not_true, Bool.not_false, and_true, true_and, and_self]
  rw [wa_attr3 h0 h1, wa_attr3 h0 h2]
  refine (l07_cells hr hc).then ?_
  rintro v K ⟨rfl, e⟩
  rw [e]; clear e K
  have e0 : Ext H (H ++ [HObj.list (cells r c)]) := ⟨_, rfl⟩
  rw [getO_of (iter_list (get_new H _))]
  refine wp_compN (fun k out K => K = H ++ [.list (cells r c)] ∧ out = ((cells r c).take k).filter (inD es)) ⟨rfl, rfl⟩ ?_ ?_ ?_
  · rintro k out K ⟨rfl, _⟩; exact chk_list (get_new H _)
  · rintro k x out K hx ⟨rfl, rfl⟩
    obtain ⟨i, j, rfl, _, _⟩ := cell_mem (List.mem_of_getElem? hx)
    refine wp_step ?_
    simp only [↓wp_none, ↓wp_bool, ↓wp_int, ↓wp_glob, ↓wp_var, ↓wp_bin, ↓wp_not, ↓wp_and, ↓wp_or, ↓wp_cmp, ↓wp_cmp2, ↓wp_sub, ↓wp_oNone, ↓wp_oSome, ↓wp_tup, ↓wp_list, ↓wp_dict, ↓wp_callE, ↓wp_bf, ↓wp_bm, ↓wp_isinst, ↓wp_nil, ↓wp_cons, ↓wp_attr, ↓wp_umeth, ↓wp_new, ↓wps_nil, ↓wps_cons, ↓wps_expr, ↓wps_assign, ↓wps_ret, ↓wps_ite, ↓wps_raise, ↓wps_setattr, ↓wps_setitem, ↓wv_add, ↓wv_sub, ↓wv_mul, ↓wv_fdiv, ↓wv_mod, ↓wv_range, ↓wv_len_script, ↓wv_len_tup, ↓wv_max2, ↓go_eq, ↓go_ne, ↓go_neB, ↓go_isNotB, ↓go_isB, ↓go_lt, ↓go_gt, ↓go_le, ↓go_isNone_none, ↓go_isNone_int, ↓go_isNotNone_none, ↓go_isNotNone_int, ↓wi_int_int, ↓wi_int_bool, ↓wi_int_tup, ↓wi_int_list, ↓wi_bool_int, ↓wi_bool_bool, ↓wi_bool_tup, ↓wi_none_tup, ↓wi_none_int, ↓wi_str_tup, ↓wi_str_int, ↓wi_tup_tup, ↓wi_tup_int, ↓ws_tup0, ↓ws_tup1, ↓ws_tup2, ↓getV_zero, ↓getV_s, ↓getV_n, ↓getV_succ, ↓asBool_bool, ↓getO_some, ↓brB_true, ↓brB_false, ↓brB_not, ↓wp_ret, List.map_cons, List.map_nil, List.cons_append, List.nil_append, List.set_cons_zero, List.set_cons_succ, List.replicate_succ, List.replicate_zero, Bool.not_true, Bool.not_false, and_true, true_and, and_self]
    rw [wa_attr3 (e0.get h0) h4, getO_of (in_dict (e0.get L.sinks))]
    simp only [↓wp_none, ↓wp_bool, ↓wp_int, ↓wp_glob, ↓wp_var, ↓wp_bin, ↓wp_not, ↓wp_and, ↓wp_or, ↓wp_cmp, ↓wp_cmp2, ↓wp_sub, ↓wp_oNone, ↓wp_oSome, ↓wp_tup, ↓wp_list, ↓wp_dict, ↓wp_callE, ↓wp_bf, ↓wp_bm, ↓wp_isinst, ↓wp_nil, ↓wp_cons, ↓wp_attr, ↓wp_umeth, ↓wp_new, ↓wps_nil, ↓wps_cons, ↓wps_expr, ↓wps_assign, ↓wps_ret, ↓wps_ite, ↓wps_raise, ↓wps_setattr, ↓wps_setitem, ↓wv_add, ↓wv_sub, ↓wv_mul, ↓wv_fdiv, ↓wv_mod, ↓wv_range, ↓wv_len_script, ↓wv_len_tup, ↓wv_max2, ↓go_eq, ↓go_ne, ↓go_neB, ↓go_isNotB, ↓go_isB, ↓go_lt, ↓go_gt, ↓go_le, ↓go_isNone_none, ↓go_isNone_int, ↓go_isNotNone_none, ↓go_isNotNone_int, ↓wi_int_int, ↓wi_int_bool, ↓wi_int_tup, ↓wi_int_list, ↓wi_bool_int, ↓wi_bool_bool, ↓wi_bool_tup, ↓wi_none_tup, ↓wi_none_int, ↓wi_str_tup, ↓wi_str_int, ↓wi_tup_tup, ↓wi_tup_int, ↓ws_tup0, ↓ws_tup1, ↓ws_tup2, ↓getV_zero, ↓getV_s, ↓getV_n, ↓getV_succ, ↓asBool_bool, ↓getO_some, ↓brB_true, ↓brB_false, ↓brB_not, ↓wp_ret, List.map_cons, List.map_nil, List.cons_append, List.nil_append, List.set_cons_zero, List.set_cons_succ, List.replicate_succ, List.replicate_zero, Bool.not_true, Bool.not_false, and_true, true_and, and_self]
    rw [take_snoc hx, List.filter_append]
    refine brB_cases ?_ ?_
    · intro q
      rw [List.filter_cons_of_pos q]; rfl
    · intro q
      rw [List.filter_cons_of_neg (by rw [q]; exact Bool.false_ne_true)]; rfl
  · rintro zs K ⟨rfl, rfl⟩
    have tl : (cells r c).take (cells r c).length = cells r c := List.take_length
    refine ⟨?_, _, rfl, by rw [List.length_append]; omega, e0.new _, ?_⟩
    · refine Nat.lt_of_le_of_lt (List.length_filter_le _ _) ?_
      rw [tl, cells_len]
      have := Nat.mul_le_mul hr hc
      omega
    · rw [get_new, tl]
theorem l07_look {o r c lg b s ls i j : Nat} {g : List (List Val)} {es : List (Key × Val)} (hi : i < r) (hj : j < c) (L : LandAt H o r c lg b s ls g es) : Wp (callF T_07 (d + 3) 21 [.loc o, .tup [.int (i : Int), .int (j : Int)]]) H (fun v H' => v = .none ∧ H' = H) NoE := by
  obtain ⟨fs, h0, h1, h2, h3, h4⟩ := L.inst
  rw [wp_call (g := f21_07) rfl rfl, f21_07]
  refine wps_no (fun H' => H' = H) ?_ ?_
  · simp only [↓wp_none, ↓wp_bool, ↓wp_int, ↓wp_glob, ↓wp_var, ↓wp_bin, ↓wp_not, ↓wp_and, ↓wp_or, ↓wp_cmp, ↓wp_cmp2, ↓wp_sub, ↓wp_oNone, ↓wp_oSome, ↓wp_tup, ↓wp_list, ↓wp_dict, ↓wp_callE, ↓wp_bf, ↓wp_bm, ↓wp_isinst, ↓wp_nil, ↓wp_cons, ↓wp_attr, ↓wp_umeth, ↓wp_new, ↓wps_nil, ↓wps_cons, ↓wps_expr, ↓wps_assign, ↓wps_ret, ↓wps_ite, ↓wps_raise, ↓wps_setattr, ↓wps_setitem, ↓wv_add, ↓wv_sub, ↓wv_mul, ↓wv_fdiv, ↓wv_mod, ↓wv_range, ↓wv_len_script, ↓wv_len_tup, ↓wv_max2, ↓go_eq, ↓go_ne, ↓go_neB, ↓go_isNotB, ↓go_isB, ↓go_lt, ↓go_gt, ↓go_le, ↓go_isNone_none, ↓go_isNone_int, ↓go_isNotNone_none, ↓go_isNotNone_int, ↓wi_int_int, ↓wi_int_bool, ↓wi_int_tup, ↓wi_int_list, ↓wi_bool_int, ↓wi_bool_bool, ↓wi_bool_tup, ↓wi_none_tup, ↓wi_none_int, ↓wi_str_tup, ↓wi_str_int, ↓wi_tup_tup, ↓wi_tup_int, ↓ws_tup0, ↓ws_tup1, ↓ws_tup2, ↓getV_zero, ↓getV_s, ↓getV_n, ↓getV_succ, ↓asBool_bool, ↓getO_some, ↓brB_true, ↓brB_false, ↓brB_not, ↓wp_ret, List.map_cons, List.map_nil, List.cons_append, List.nil_append, List.set_cons_zero, List.set_cons_succ, List.replicate_succ, List.replicate_zero, Bool.not_true, Bool.not_false, and_true, true_and, and_self]
    rw [wa_attr3 h0 h1, wa_attr3 h0 h2, l07_lies (by omega) (by omega) (by omega) (by omega)]
    simp only [↓wp_none, ↓wp_bool, ↓wp_int, ↓wp_glob, ↓wp_var, ↓wp_bin, ↓wp_not, ↓wp_and, ↓wp_or, ↓wp_cmp, ↓wp_cmp2, ↓wp_sub, ↓wp_oNone, ↓wp_oSome, ↓wp_tup, ↓wp_list, ↓wp_dict, ↓wp_callE, ↓wp_bf, ↓wp_bm, ↓wp_isinst, ↓wp_nil, ↓wp_cons, ↓wp_attr, ↓wp_umeth, ↓wp_new, ↓wps_nil, ↓wps_cons, ↓wps_expr, ↓wps_assign, ↓wps_ret, ↓wps_ite, ↓wps_raise, ↓wps_setattr, ↓wps_setitem, ↓wv_add, ↓wv_sub, ↓wv_mul, ↓wv_fdiv, ↓wv_mod, ↓wv_range, ↓wv_len_script, ↓wv_len_tup, ↓wv_max2, ↓go_eq, ↓go_ne, ↓go_neB, ↓go_isNotB, ↓go_isB, ↓go_lt, ↓go_gt, ↓go_le, ↓go_isNone_none, ↓go_isNone_int, ↓go_isNotNone_none, ↓go_isNotNone_int, ↓wi_int_int, ↓wi_int_bool, ↓wi_int_tup, ↓wi_int_list, ↓wi_bool_int, ↓wi_bool_bool, ↓wi_bool_tup, ↓wi_none_tup, ↓wi_none_int, ↓wi_str_tup, ↓wi_str_int, ↓wi_tup_tup, ↓wi_tup_int, ↓ws_tup0, ↓ws_tup1, ↓ws_tup2, ↓getV_zero, ↓getV_s, ↓getV_n, ↓getV_succ, ↓asBool_bool, ↓getO_some, ↓brB_true, ↓brB_false, ↓brB_not, ↓wp_ret, List.map_cons, List.map_nil, List.cons_append, List.nil_append, List.set_cons_zero, List.set_cons_succ, List.replicate_succ, List.replicate_zero, Bool.not_true, Bool.not_false, and_true, true_and, and_self]
  · rintro H' rfl
    rw [wps_nil]; exact ⟨rfl, rfl⟩
theorem ext_look {o i j : Nat} {fs : List (Nat × Val)} {P : Hp → Prop} (h0 : H[o]? = some (.inst 5 fs)) (h : Wp (callF T_07 d 21 [.loc o, .tup [.int (i : Int), .int (j : Int)]]) H (fun v H' => v = .none ∧ H' = H) NoE) (p : P H) {Γ : Env'} (g0 : Γ[0]? = some (some (.loc o))) (g1 : Γ[1]? = some (some (.tup [.int (i : Int), .int (j : Int)]))) :
    wpE T_07 (callF T_07 d) (.umeth (.var 0) 1 (.cons (.var 1) .nil)) Γ H (fun _ H' => P H') NoE := by
  rw [wp_umeth, wp_var, getV_get, g0]
  show Wp (umethOf T_07 (.loc o) 1) H _ _
  rw [wu_meth3 h0 (show T_07.meth 5 1 = some 21 from rfl), wp_cons, wp_var, getV_get, g1]
  show wpEs _ _ _ _ _ _ _
  rw [wp_nil]
  exact h.then fun v H' e => e.2 ▸ p
theorem l07_at {o r c lg b s ls i j : Nat} {g : List (List Val)} {es : List (Key × Val)} {w : List Val} {x : Val} (hi : i < r) (hj : j < c) (L : LandAt H o r c lg b s ls g es) (hw : g[i]? = some w) (hx : w[j]? = some x) :
    Wp (callF T_07 (d + 4) 22 [.loc o, .tup [.int (i : Int), .int (j : Int)]]) H (fun v H' => v = x ∧ H' = H) NoE := by
  obtain ⟨fs, h0, h1, h2, h3, h4⟩ := L.inst
  rw [wp_call (g := f22_07) rfl rfl, f22_07]
  refine wps_ex (fun H' => H' = H) (ext_look (P := fun K => K = H) h0 (l07_look hi hj L) rfl rfl rfl) ?_
  rintro H' rfl
  simp only [↓wp_none, ↓wp_bool, ↓wp_int, ↓wp_glob, ↓wp_var, ↓wp_bin, ↓wp_not, ↓wp_and, ↓wp_or, ↓wp_cmp, ↓wp_cmp2, ↓wp_sub, ↓wp_oNone, ↓wp_oSome, ↓wp_tup, ↓wp_list, ↓wp_dict, ↓wp_callE, ↓wp_bf, ↓wp_bm, ↓wp_isinst, ↓wp_nil, ↓wp_cons, ↓wp_attr, ↓wp_umeth, ↓wp_new, ↓wps_nil, ↓wps_cons, ↓wps_expr, ↓wps_assign, ↓wps_ret, ↓wps_ite, ↓wps_raise, ↓wps_setattr, ↓wps_setitem, ↓wv_add, ↓wv_sub, ↓wv_mul, ↓wv_fdiv, ↓wv_mod, ↓wv_range, ↓wv_len_script, ↓wv_len_tup, ↓wv_max2, ↓go_eq, ↓go_ne, ↓go_neB, ↓go_isNotB, ↓go_isB, ↓go_lt, ↓go_gt, ↓go_le, ↓go_isNone_none, ↓go_isNone_int, ↓go_isNotNone_none, ↓go_isNotNone_int, ↓wi_int_int, ↓wi_int_bool, ↓wi_int_tup, ↓wi_int_list, ↓wi_bool_int, ↓wi_bool_bool, ↓wi_bool_tup, ↓wi_none_tup, ↓wi_none_int, ↓wi_str_tup, ↓wi_str_int, ↓wi_tup_tup, ↓wi_tup_int, ↓ws_tup0, ↓ws_tup1, ↓ws_tup2, ↓getV_zero, ↓getV_s, ↓getV_n, ↓getV_succ, ↓asBool_bool, ↓getO_some, ↓brB_true, ↓brB_false, ↓brB_not, ↓wp_ret, List.map_cons, List.map_nil, List.cons_append, List.nil_append, List.set_cons_zero, List.set_cons_succ, List.replicate_succ, List.replicate_zero, Bool.not_true, Bool.not_false, and_true, true_and, and_self]
  rw [wa_attr3 h0 h3, ws_eq3 L.grid.top (L.grid.item (List.getElem?_eq_some_iff.mp hw).1), ws_eq3 (L.grid.row i w hw) hx]
  exact ⟨rfl, rfl⟩
theorem l07_opened {o r c lg b s ls i j : Nat} {g : List (List Val)} {es : List (Key × Val)} {w : List Val} {n : Int} (hi : i < r) (hj : j < c) (L : LandAt H o r c lg b s ls g es) (hw : g[i]? = some w) (hx : w[j]? = some (.int n)) (he : es.length < lid) :
    Wp (callF T_07 (d + 4) 23 [.loc o, .tup [.int (i : Int), .int (j : Int)]]) H (fun v H' => v = .none ∧ H' = H.set ls (.dict (dput es ((i : Int), (j : Int)) (.bool true)))) NoE := by
  obtain ⟨fs, h0, h1, h2, h3, h4⟩ := L.inst
  rw [wp_call (g := f23_07) rfl rfl, f23_07]
  refine wps_ex (fun H' => H' = H) (ext_look (P := fun K => K = H) h0 (l07_look hi hj L) rfl rfl rfl) ?_
  rintro H' rfl
  refine wps_no (fun K => K = H') ?_ ?_
  · simp only [↓wp_none, ↓wp_bool, ↓wp_int, ↓wp_glob, ↓wp_var, ↓wp_bin, ↓wp_not, ↓wp_and, ↓wp_or, ↓wp_cmp, ↓wp_cmp2, ↓wp_sub, ↓wp_oNone, ↓wp_oSome, ↓wp_tup, ↓wp_list, ↓wp_dict, ↓wp_callE, ↓wp_bf, ↓wp_bm, ↓wp_isinst, ↓wp_nil, ↓wp_cons, ↓wp_attr, ↓wp_umeth, ↓wp_new, ↓wps_nil, ↓wps_cons, ↓wps_expr, ↓wps_assign, ↓wps_ret, ↓wps_ite, ↓wps_raise, ↓wps_setattr, ↓wps_setitem, ↓wv_add, ↓wv_sub, ↓wv_mul, ↓wv_fdiv, ↓wv_mod, ↓wv_range, ↓wv_len_script, ↓wv_len_tup, ↓wv_max2, ↓go_eq, ↓go_ne, ↓go_neB, ↓go_isNotB, ↓go_isB, ↓go_lt, ↓go_gt, ↓go_le, ↓go_isNone_none, ↓go_isNone_int, ↓go_isNotNone_none, ↓go_isNotNone_int, ↓wi_int_int, ↓wi_int_bool, ↓wi_int_tup, ↓wi_int_list, ↓wi_bool_int, ↓wi_bool_bool, ↓wi_bool_tup, ↓wi_none_tup, ↓wi_none_int, ↓wi_str_tup, ↓wi_str_int, ↓wi_tup_tup, ↓wi_tup_int, ↓ws_tup0, ↓ws_tup1, ↓ws_tup2, ↓getV_zero, ↓getV_s, ↓getV_n, ↓getV_succ, ↓asBool_bool, ↓getO_some, ↓brB_true, ↓brB_false, ↓brB_not, ↓wp_ret, List.map_cons, List.map_nil, List.cons_append, List.nil_append, List.set_cons_zero, List.set_cons_succ, List.replicate_succ, List.replicate_zero, Bool.not_true, Bool.not_false, and_true, true_and, and_self]
    rw [wa_attr3 h0 h3, ws_eq3 L.grid.top (L.grid.item (List.getElem?_eq_some_iff.mp hw).1), ws_eq3 (L.grid.row i w hw) hx]
    simp only [↓wp_none, ↓wp_bool, ↓wp_int, ↓wp_glob, ↓wp_var, ↓wp_bin, ↓wp_not, ↓wp_and, ↓wp_or, ↓wp_cmp, ↓wp_cmp2, ↓wp_sub, ↓wp_oNone, ↓wp_oSome, ↓wp_tup, ↓wp_list, ↓wp_dict, ↓wp_callE, ↓wp_bf, ↓wp_bm, ↓wp_isinst, ↓wp_nil, ↓wp_cons, ↓wp_attr, ↓wp_umeth, ↓wp_new, ↓wps_nil, ↓wps_cons, ↓wps_expr, ↓wps_assign, ↓wps_ret, ↓wps_ite, ↓wps_raise, ↓wps_setattr, ↓wps_setitem, ↓wv_add, ↓wv_sub, ↓wv_mul, ↓wv_fdiv, ↓wv_mod, ↓wv_range, ↓wv_len_script, ↓wv_len_tup, ↓wv_max2, ↓go_eq, ↓go_ne, ↓go_neB, ↓go_isNotB, ↓go_isB, ↓go_lt, ↓go_gt, ↓go_le, ↓go_isNone_none, ↓go_isNone_int, ↓go_isNotNone_none, ↓go_isNotNone_int, ↓wi_int_int, ↓wi_int_bool, ↓wi_int_tup, ↓wi_int_list, ↓wi_bool_int, ↓wi_bool_bool, ↓wi_bool_tup, ↓wi_none_tup, ↓wi_none_int, ↓wi_str_tup, ↓wi_str_int, ↓wi_tup_tup, ↓wi_tup_int, ↓ws_tup0, ↓ws_tup1, ↓ws_tup2, ↓getV_zero, ↓getV_s, ↓getV_n, ↓getV_succ, ↓asBool_bool, ↓getO_some, ↓brB_true, ↓brB_false, ↓brB_not, ↓wp_ret, List.map_cons, List.map_nil, List.cons_append, List.nil_append, List.set_cons_zero, List.set_cons_succ, List.replicate_succ, List.replicate_zero, Bool.not_true, Bool.not_false, and_true, true_and, and_self]
  rintro K rfl
  simp only [↓wp_none, ↓wp_bool, ↓wp_int, ↓wp_glob, ↓wp_var, ↓wp_bin, ↓wp_not, ↓wp_and, ↓wp_or, ↓wp_cmp, ↓wp_cmp2, ↓wp_sub, ↓wp_oNone, ↓wp_oSome, ↓wp_tup, ↓wp_list, ↓wp_dict, ↓wp_callE, ↓wp_bf, ↓wp_bm, ↓wp_isinst, ↓wp_nil, ↓wp_cons, ↓wp_attr, ↓wp_umeth, ↓wp_new, ↓wps_nil, ↓wps_cons, ↓wps_expr, ↓wps_assign, ↓wps_ret, ↓wps_ite, ↓wps_raise, ↓wps_setattr, ↓wps_setitem, ↓wv_add, ↓wv_sub, ↓wv_mul, ↓wv_fdiv, ↓wv_mod, ↓wv_range, ↓wv_len_script, ↓wv_len_tup, ↓wv_max2, ↓go_eq, ↓go_ne, ↓go_neB, ↓go_isNotB, ↓go_isB, ↓go_lt, ↓go_gt, ↓go_le, ↓go_isNone_none, ↓go_isNone_int, ↓go_isNotNone_none, ↓go_isNotNone_int, ↓wi_int_int, ↓wi_int_bool, ↓wi_int_tup, ↓wi_int_list, ↓wi_bool_int, ↓wi_bool_bool, ↓wi_bool_tup, ↓wi_none_tup, ↓wi_none_int, ↓wi_str_tup, ↓wi_str_int, ↓wi_tup_tup, ↓wi_tup_int, ↓ws_tup0, ↓ws_tup1, ↓ws_tup2, ↓getV_zero, ↓getV_s, ↓getV_n, ↓getV_succ, ↓asBool_bool, ↓getO_some, ↓brB_true, ↓brB_false, ↓brB_not, ↓wp_ret, List.map_cons, List.map_nil, List.cons_append, List.nil_append, List.set_cons_zero, List.set_cons_succ, List.replicate_succ, List.replicate_zero, Bool.not_true, Bool.not_false, and_true, true_and, and_self]
  rw [wa_attr3 h0 h4]
  refine Wp.of_eq (a := ()) (H' := K.set ls (.dict (dput es ((i : Int), (j : Int)) (.bool true)))) ?_ rfl
  unfold setitemV
  simp only [L.sinks]
  exact if_pos he
end
end Mine.Pure

-- part L7G
namespace Mine.Pure
open PySem Pile
/-! ## the flood, without a program -/
noncomputable def ent (l : Int) (k : Key) : Val := .tup [.int l, .tup [.int k.1, .int k.2]]
theorem ent_inj {l l' : Int} {k k' : Key} (h : ent l k = ent l' k') : l = l' ∧ k = k' := by
  obtain ⟨a, b⟩ := k
  obtain ⟨c, d⟩ := k'
  unfold ent at h
  injection h with h
  injection h with h1 h2
  injection h1 with h1
  injection h2 with h2 _
  injection h2 with h2
  injection h2 with h2 h3
  injection h3 with h3 _
  injection h2 with h2
  injection h3 with h3
  exact ⟨h1, Prod.ext h2 h3⟩
theorem ent_dc (l : Int) (k : Key) : DC (ent l k) := ⟨l, k.1, k.2, rfl⟩
theorem ent_low {l l' : Int} {k k' : Key} (h : klt (ent l k) (ent l' k') = false) : l' ≤ l := by
  have h : lexLt [l, k.1, k.2] [l', k'.1, k'.2] = false := h
  unfold lexLt at h
  by_cases q : l < l'
  · rw [if_pos q] at h; cases h
  · omega
noncomputable def mx (a b : Int) : Int := if b > a then b else a
theorem mx_l (a b : Int) : a ≤ mx a b := by unfold mx; by_cases q : b > a <;> simp [q] <;> omega
theorem mx_r (a b : Int) : b ≤ mx a b := by unfold mx; by_cases q : b > a <;> simp [q] <;> omega
theorem mx_le {a b c : Int} (h1 : a ≤ c) (h2 : b ≤ c) : mx a b ≤ c := by unfold mx; by_cases q : b > a <;> simp [q] <;> omega
theorem mx_mono (a : Int) {b c : Int} (h : b ≤ c) : mx a b ≤ mx a c := mx_le (mx_l a c) (Int.le_trans h (mx_r a c))
noncomputable def nears (i j : Int) : List Key := [(i - 1, j), (i, j - 1), (i, j + 1), (i + 1, j)]
noncomputable def Adj (k q : Key) : Prop := q ∈ nears k.1 k.2
theorem Adj.symm {k q : Key} (h : Adj k q) : Adj q k := by
  obtain ⟨i, j⟩ := k
  have h : q ∈ [(i - 1, j), (i, j - 1), (i, j + 1), (i + 1, j)] := h
  rcases List.mem_cons.mp h with rfl | h
  · exact .tail _ (.tail _ (.tail _ (List.mem_singleton.mpr (by rw [Int.sub_add_cancel]))))
  rcases List.mem_cons.mp h with rfl | h
  · exact .tail _ (.tail _ (List.mem_cons.mpr (.inl (by rw [Int.sub_add_cancel]))))
  rcases List.mem_cons.mp h with rfl | h
  · exact .tail _ (List.mem_cons.mpr (.inl (by rw [Int.add_sub_cancel])))
  cases List.mem_singleton.mp h
  exact List.mem_cons.mpr (.inl (by rw [Int.add_sub_cancel]))
/- a level at which a cell's water runs out -/
inductive Rc (h : Key → Option Int) (D : Key → Prop) : Key → Int → Prop
  | drain {k : Key} {a : Int} : D k → h k = some a → Rc h D k a
  | step {p q : Key} {f a : Int} : Rc h D p f → Adj p q → h q = some a → Rc h D q (mx a f)
theorem Rc.hi {h : Key → Option Int} {D : Key → Prop} {k : Key} {f : Int} (x : Rc h D k f) : ∃ a, h k = some a ∧ a ≤ f := by
  cases x with
  | drain d e => exact ⟨_, e, Int.le_refl _⟩
  | step r n e => exact ⟨_, e, mx_l _ _⟩
theorem Rc.mono {h : Key → Option Int} {D D' : Key → Prop} (i : ∀ k, D k → D' k) {k : Key} {f : Int} (x : Rc h D k f) : Rc h D' k f := by
  induction x with
  | drain d e => exact .drain (i _ d) e
  | step r n e ih => exact .step ih n e
/- what holds during a flood: F the levels found, xs the pile, U the cells not yet done, O the pairs still open -/
structure Fl (h : Key → Option Int) (D C : Key → Prop) (O : Key → Key → Prop) (F : Key → Option Int) (xs : List Val) (U : List Key) (m : Int) : Prop where
  ents : ∀ x ∈ xs, ∃ l k, x = ent l k ∧ m ≤ l ∧ ∃ f, F k = some f ∧ f ≤ l
  nd : xs.Nodup
  here : ∀ k f, F k = some f → k ∈ U → ent f k ∈ xs
  done : ∀ k f, F k = some f → ¬ k ∈ U → ¬ ent f k ∈ xs ∧ f ≤ m
  seen : ∀ k, C k → ¬ k ∈ U → F k ≠ none
  drain : ∀ k, D k → F k = h k
  snd : ∀ k f, F k = some f → Rc h D k f
  near : ∀ p fp, F p = some fp → ¬ p ∈ U → ∀ q, Adj p q → ¬ O p q → ∀ a, h q = some a → ∃ fq, F q = some fq ∧ fq ≤ mx a fp
noncomputable def upd (F : Key → Option Int) (q : Key) (v : Int) (k : Key) : Option Int := if k = q then some v else F k
theorem upd_self (F : Key → Option Int) (q : Key) (v : Int) : upd F q v q = some v := if_pos rfl
theorem upd_ne (F : Key → Option Int) {q k : Key} (v : Int) (h : k ≠ q) : upd F q v k = F k := if_neg h
section
variable {h : Key → Option Int} {D C : Key → Prop} {O O' : Key → Key → Prop} {F : Key → Option Int} {xs : List Val} {U : List Key} {m : Int}
theorem Fl.perm {ys : List Val} (x : Fl h D C O F xs U m) (p : ys.Perm xs) : Fl h D C O F ys U m :=
  ⟨fun y hy => x.ents y (p.mem_iff.mp hy), p.nodup_iff.mpr x.nd, fun k f hf hk => p.mem_iff.mpr (x.here k f hf hk), fun k f hf hk => ⟨fun q => (x.done k f hf hk).1 (p.mem_iff.mp q), (x.done k f hf hk).2⟩, x.seen, x.drain, x.snd, x.near⟩
theorem Fl.start (hU : ∀ k, C k → k ∈ U) : Fl h (fun _ => False) C O (fun _ => none) [] U 0 :=
  ⟨fun y hy => (nomatch hy), List.nodup_nil, fun k f hf => (nomatch hf), fun k f hf => (nomatch hf), fun k hc hk => absurd (hU k hc) hk, fun k hk => False.elim hk, fun k f hf => (nomatch hf), fun p fp hf => nomatch hf⟩
theorem nodup_snoc {xs : List Val} {v : Val} (h : xs.Nodup) (n : ¬ v ∈ xs) : (xs ++ [v]).Nodup := by
  rw [List.nodup_append]
  refine ⟨h, by simp, fun a ha b hb e => ?_⟩
  cases List.mem_singleton.mp hb
  exact n (e ▸ ha)
/- a drain more -/
theorem Fl.opened {q : Key} {a : Int} (x : Fl h D C O F xs U 0) (all : ∀ k, ¬ k ∈ U → F k = none) (hF : F q = none) (ha : h q = some a) (h0 : 0 ≤ a) (hq : q ∈ U) : Fl h (fun k => D k ∨ k = q) C O (upd F q a) (xs ++ [ent a q]) U 0 := by
  have old : ∀ k f, F k = some f → k ≠ q := fun k f hf e => by rw [e, hF] at hf; cases hf
  have get : ∀ k f, upd F q a k = some f → (k = q ∧ f = a) ∨ (k ≠ q ∧ F k = some f) := fun k f hf => by
    by_cases e : k = q
    · rw [e, upd_self] at hf; cases hf; exact .inl ⟨e, rfl⟩
    · rw [upd_ne _ _ e] at hf; exact .inr ⟨e, hf⟩
  have no : ¬ ent a q ∈ xs := fun hx => by
    obtain ⟨l, k, e, _, f, hf, _⟩ := x.ents _ hx
    exact old k f hf (ent_inj e).2.symm
  refine ⟨fun y hy => ?_, nodup_snoc x.nd no, fun k f hf hk => ?_, fun k f hf hk => ?_, fun k hc hk => ?_, fun k hk => ?_, fun k f hf => ?_, fun p fp hf hp => ?_⟩
  · rcases List.mem_append.mp hy with hy | hy
    · obtain ⟨l, k, e, hl, f, hf, hle⟩ := x.ents y hy
      exact ⟨l, k, e, hl, f, by rw [upd_ne _ _ (old k f hf)]; exact hf, hle⟩
    · cases List.mem_singleton.mp hy
      exact ⟨a, q, rfl, h0, a, upd_self _ _ _, Int.le_refl _⟩
  · rcases get k f hf with ⟨rfl, rfl⟩ | ⟨_, hf⟩
    · exact List.mem_append.mpr (.inr (List.mem_singleton.mpr rfl))
    · exact List.mem_append.mpr (.inl (x.here k f hf hk))
  · rcases get k f hf with ⟨rfl, rfl⟩ | ⟨_, hf⟩
    · exact absurd hq hk
    · rw [all k hk] at hf; cases hf
  · intro e
    have := x.seen k hc hk
    rw [all k hk] at this
    exact this rfl
  · by_cases e : k = q
    · rw [e, upd_self, ha]
    · rw [upd_ne _ _ e]; exact x.drain k (hk.resolve_right e)
  · rcases get k f hf with ⟨rfl, rfl⟩ | ⟨_, hf⟩
    · exact .drain (.inr rfl) ha
    · exact (x.snd k f hf).mono fun _ d => .inl d
  · rcases get p fp hf with ⟨rfl, rfl⟩ | ⟨_, hf⟩
    · exact absurd hq hp
    · rw [all p hp] at hf; cases hf
/- an entry that is stale -/
theorem Fl.stale {L : Int} {p : Key} {t : List Val} (x : Fl h D C O F (ent L p :: t) U m) (hF : F p ≠ some L) : Fl h D C O F t U m := by
  refine ⟨fun y hy => x.ents y (.tail _ hy), (List.nodup_cons.mp x.nd).2, fun k f hf hk => ?_, fun k f hf hk => ⟨fun q => (x.done k f hf hk).1 (.tail _ q), (x.done k f hf hk).2⟩, x.seen, x.drain, x.snd, x.near⟩
  rcases List.mem_cons.mp (x.here k f hf hk) with e | e
  · obtain ⟨rfl, rfl⟩ := ent_inj e
    exact absurd hf hF
  · exact e
/- an entry that counts: its cell is done -/
theorem Fl.pop {L : Int} {p : Key} {t : List Val} (x : Fl h D C (fun _ _ => False) F (ent L p :: t) U m) (least : ∀ y ∈ t, klt y (ent L p) = false) (hF : F p = some L) :
    p ∈ U ∧ Fl h D C (fun p' _ => p' = p) F t (U.filter fun k => decide (k ≠ p)) L := by
  have hmem : ∀ k, k ∈ U.filter (fun k => decide (k ≠ p)) ↔ (k ∈ U ∧ k ≠ p) := fun k => by rw [List.mem_filter, decide_eq_true_eq]
  have hp : p ∈ U := Classical.byContradiction fun q => (x.done p L hF q).1 (.head _)
  obtain ⟨n1, n2⟩ := List.nodup_cons.mp x.nd
  obtain ⟨l0, k0, e0, hl0, _⟩ := x.ents _ (.head _)
  obtain ⟨rfl, rfl⟩ := ent_inj e0
  refine ⟨hp, fun y hy => ?_, n2, fun k f hf hk => ?_, fun k f hf hk => ?_, fun k hc hk => ?_, x.drain, x.snd, fun p' fp hf hk q hq ho a ha => ?_⟩
  · obtain ⟨l, k, rfl, hl, f, hf, hle⟩ := x.ents y (.tail _ hy)
    exact ⟨l, k, rfl, ent_low (least _ hy), f, hf, hle⟩
  · obtain ⟨hk, ne⟩ := (hmem k).mp hk
    rcases List.mem_cons.mp (x.here k f hf hk) with e | e
    · exact absurd (ent_inj e).2 ne
    · exact e
  · by_cases e : k = p
    · subst e
      rw [hF] at hf; cases hf
      exact ⟨n1, Int.le_refl _⟩
    · have hk' : ¬ k ∈ U := fun q => hk ((hmem k).mpr ⟨q, e⟩)
      obtain ⟨d1, d2⟩ := x.done k f hf hk'
      exact ⟨fun q => d1 (.tail _ q), by omega⟩
  · by_cases e : k = p
    · rw [e, hF]; exact fun c => nomatch c
    · exact x.seen k hc fun q => hk ((hmem k).mpr ⟨q, e⟩)
  · have hk' : ¬ p' ∈ U := fun q => hk ((hmem p').mpr ⟨q, ho⟩)
    exact x.near p' fp hf hk' q hq (fun q => q) a ha
theorem Fl.skip {L : Int} {p q : Key} (x : Fl h D C O F xs U m) (hO : ∀ p' q', O p' q' → O' p' q' ∨ (p' = p ∧ q' = q)) (hF : F p = some L) (hq : ∀ a, h q = some a → ∃ fq, F q = some fq ∧ fq ≤ mx a L) : Fl h D C O' F xs U m := by
  refine ⟨x.ents, x.nd, x.here, x.done, x.seen, x.drain, x.snd, fun p' fp hf hp q' hq' ho a ha => ?_⟩
  by_cases o : O p' q'
  · obtain ⟨rfl, rfl⟩ := (hO p' q' o).resolve_left ho
    rw [hF] at hf; cases hf
    exact hq a ha
  · exact x.near p' fp hf hp q' hq' o a ha
theorem Fl.put {L a : Int} {p q : Key} (x : Fl h D C O F xs U L) (hO : ∀ p' q', O p' q' → O' p' q' ∨ (p' = p ∧ q' = q)) (hp : ¬ p ∈ U) (hF : F p = some L) (hC : C q) (hA : Adj p q) (ha : h q = some a) (new : ∀ f, F q = some f → mx a L < f) :
    Fl h D C O' (upd F q (mx a L)) (xs ++ [ent (mx a L) q]) U L := by
  have hL := mx_r a L
  have hqU : q ∈ U := Classical.byContradiction fun n => by
    cases hf : F q with
    | none => exact x.seen q hC n hf
    | some f =>
      have := (x.done q f hf n).2
      have := new f hf
      omega
  have pq : p ≠ q := fun e => hp (e ▸ hqU)
  have get : ∀ k f, upd F q (mx a L) k = some f → (k = q ∧ f = mx a L) ∨ (k ≠ q ∧ F k = some f) := fun k f hf => by
    by_cases e : k = q
    · rw [e, upd_self] at hf; cases hf; exact .inl ⟨e, rfl⟩
    · rw [upd_ne _ _ e] at hf; exact .inr ⟨e, hf⟩
  have no : ¬ ent (mx a L) q ∈ xs := fun hx => by
    obtain ⟨l, k, e, _, f, hf, hle⟩ := x.ents _ hx
    obtain ⟨e1, rfl⟩ := ent_inj e
    have := new f hf
    omega
  refine ⟨fun y hy => ?_, nodup_snoc x.nd no, fun k f hf hk => ?_, fun k f hf hk => ?_, fun k hc hk => ?_, fun k hk => ?_, fun k f hf => ?_, fun p' fp hf hp' q' hq' ho b hb => ?_⟩
  · rcases List.mem_append.mp hy with hy | hy
    · obtain ⟨l, k, e, hl, f, hf, hle⟩ := x.ents y hy
      by_cases c : k = q
      · subst c
        exact ⟨l, k, e, hl, _, upd_self _ _ _, by have := new f hf; omega⟩
      · exact ⟨l, k, e, hl, f, by rw [upd_ne _ _ c]; exact hf, hle⟩
    · cases List.mem_singleton.mp hy
      exact ⟨_, q, rfl, hL, _, upd_self _ _ _, Int.le_refl _⟩
  · rcases get k f hf with ⟨rfl, rfl⟩ | ⟨_, hf⟩
    · exact List.mem_append.mpr (.inr (List.mem_singleton.mpr rfl))
    · exact List.mem_append.mpr (.inl (x.here k f hf hk))
  · rcases get k f hf with ⟨rfl, rfl⟩ | ⟨ne, hf⟩
    · exact absurd hqU hk
    · obtain ⟨d1, d2⟩ := x.done k f hf hk
      refine ⟨fun c => ?_, d2⟩
      rcases List.mem_append.mp c with c | c
      · exact d1 c
      · exact ne (ent_inj (List.mem_singleton.mp c)).2
  · by_cases c : k = q
    · rw [c, upd_self]; exact fun c => nomatch c
    · rw [upd_ne _ _ c]; exact x.seen k hc hk
  · by_cases c : k = q
    · subst c
      have := x.drain k hk
      rw [ha] at this
      have := new a this
      have := mx_l a L
      omega
    · rw [upd_ne _ _ c]; exact x.drain k hk
  · rcases get k f hf with ⟨rfl, rfl⟩ | ⟨_, hf⟩
    · exact .step (x.snd p L hF) hA ha
    · exact x.snd k f hf
  · rcases get p' fp hf with ⟨rfl, rfl⟩ | ⟨_, hf1⟩
    · exact absurd hqU hp'
    · by_cases o : O p' q'
      · obtain ⟨rfl, rfl⟩ := (hO p' q' o).resolve_left ho
        rw [hF] at hf1; cases hf1
        rw [ha] at hb; cases hb
        exact ⟨_, upd_self _ _ _, Int.le_refl _⟩
      · obtain ⟨fq, h1, h2⟩ := x.near p' fp hf1 hp' q' hq' o b hb
        by_cases c : q' = q
        · subst c
          exact ⟨_, upd_self _ _ _, by have := new fq h1; omega⟩
        · exact ⟨fq, by rw [upd_ne _ _ c]; exact h1, h2⟩
/- the levels of a land -/
structure Lv (h : Key → Option Int) (D : Key → Prop) (F : Key → Option Int) : Prop where
  snd : ∀ k f, F k = some f → Rc h D k f
  low : ∀ k f, Rc h D k f → ∃ f', F k = some f' ∧ f' ≤ f
theorem Fl.fin (x : Fl h D C (fun _ _ => False) F [] U m) : Lv h D F := by
  refine ⟨x.snd, fun k f r => ?_⟩
  induction r with
  | drain d e => exact ⟨_, (x.drain _ d).trans e, Int.le_refl _⟩
  | @step p q f a r n e ih =>
    obtain ⟨f', h1, h2⟩ := ih
    have hp : ¬ p ∈ U := fun c => by cases x.here p f' h1 c
    obtain ⟨fq, h3, h4⟩ := x.near p f' h1 hp q n (fun c => c) a e
    exact ⟨fq, h3, Int.le_trans h4 (mx_mono a h2)⟩
theorem Lv.uniq {F' : Key → Option Int} (x : Lv h D F) (y : Lv h D F') (k : Key) : F k = F' k := by
  cases e : F k with
  | none =>
    cases e' : F' k with
    | none => rfl
    | some f =>
      obtain ⟨g, h1, _⟩ := x.low k f (y.snd k f e')
      rw [e] at h1; cases h1
  | some f =>
    obtain ⟨g, h1, h2⟩ := y.low k f (x.snd k f e)
    obtain ⟨g', h3, h4⟩ := x.low k g (y.snd k g h1)
    rw [e] at h3; cases h3
    rw [h1, show f = g by omega]
theorem Lv.stone (x : Lv h D F) {k : Key} (e : h k = none) : F k = none := by
  cases e' : F k with
  | none => rfl
  | some f =>
    obtain ⟨a, h1, _⟩ := (x.snd k f e').hi
    rw [e] at h1; cases h1
theorem Lv.own (x : Lv h D F) {k : Key} (d : D k) {a : Int} (e : h k = some a) : F k = some a := by
  obtain ⟨f, h1, h2⟩ := x.low k a (.drain d e)
  obtain ⟨b, h3, h4⟩ := (x.snd k f h1).hi
  rw [e] at h3; cases h3
  rw [h1, show f = a by omega]
theorem Lv.up (x : Lv h D F) {k q : Key} {a fq : Int} (n : Adj k q) (e : h k = some a) (hq : F q = some fq) : ∃ f, F k = some f ∧ f ≤ mx a fq := x.low k _ (.step (x.snd q fq hq) n.symm e)
theorem Lv.why (x : Lv h D F) {k : Key} {a f : Int} (d : ¬ D k) (e : h k = some a) (hf : F k = some f) : ∃ q fq, Adj k q ∧ F q = some fq ∧ f = mx a fq := by
  have r := x.snd k f hf
  cases r with
  | drain c _ => exact absurd c d
  | @step p _ g b r n e' =>
    rw [e] at e'; cases e'
    obtain ⟨g', h1, h2⟩ := x.low p g r
    obtain ⟨f', h3, h4⟩ := x.up n.symm e h1
    rw [hf] at h3; cases h3
    have := mx_mono a h2
    exact ⟨p, g', n.symm, h1, by omega⟩
/- the least level beside a cell, so far -/
structure Lst (F : Key → Option Int) (ks : List Key) (o : Option Int) : Prop where
  non : o = none → ∀ k ∈ ks, F k = none
  one : ∀ l, o = some l → (∃ k ∈ ks, F k = some l) ∧ ∀ k ∈ ks, ∀ f, F k = some f → l ≤ f
theorem Lv.due (x : Lv h D F) {k : Key} {a : Int} {ks : List Key} {o : Option Int} (e : h k = some a) (d : ¬ D k) (hk : ∀ q, q ∈ ks ↔ (Adj k q ∧ h q ≠ none)) (L : Lst F ks o) : F k = o.map (mx a) := by
  have ad : ∀ q fq, Adj k q → F q = some fq → q ∈ ks := fun q fq n hq => (hk q).mpr ⟨n, fun c => by rw [x.stone c] at hq; cases hq⟩
  cases o with
  | none =>
    cases hf : F k with
    | none => rfl
    | some f =>
      obtain ⟨q, fq, n, hq, _⟩ := x.why d e hf
      have := L.non rfl q (ad q fq n hq)
      rw [this] at hq; cases hq
  | some l =>
    obtain ⟨⟨q, hq, hl⟩, least⟩ := L.one l rfl
    obtain ⟨f, hf, le⟩ := x.up ((hk q).mp hq).1 e hl
    obtain ⟨q', fq, n, hq', rfl⟩ := x.why d e hf
    have := mx_mono a (least q' (ad q' fq n hq') fq hq')
    rw [hf]
    exact congrArg some (by omega)
end
end Mine.Pure

-- part L7H
namespace Mine.Pure
open PySem
noncomputable def sizes : List (Nat × Nat) := [(1, 30), (30, 1), (5, 5), (2, 12), (2, 30), (30, 2), (6, 7), (12, 11)]
section
variable {T : Tab} {Φ : Funs} {Γ : Env'} {H : Hp} {Q : Val → Hp → Prop} {E : Nat → Hp → Prop} {d : Nat} {QS : Env' → Hp → Prop} {R : Val → Hp → Prop} {ES : Nat → Env' → Hp → Prop}
theorem l07_size (c : Int) : ∃ r k : Nat, (OkS r k ∧ r * k ≤ 132) ∧ ∀ (H : Hp), Wp (callF T_07 (d + 1) 10 [.int c]) H (fun v H' => v = .tup [.int r, .int k] ∧ Ext H H') NoE := by
  by_cases q : Int.fmod (Int.fdiv c 20) 8 = 1
  · obtain ⟨j, hj, lj⟩ := fmod_nat (Int.fdiv c 160) 8 (by decide)
    have lj' : j < sizes.length := lj
    refine ⟨(sizes[j]).1, (sizes[j]).2, ?_, fun H => ?_⟩
    · have : ∀ p ∈ sizes, OkS p.1 p.2 ∧ p.1 * p.2 ≤ 132 := by unfold OkS sizes; decide
      exact this _ (List.getElem_mem lj')
    · rw [wp_call (g := f10_07) rfl rfl, f10_07]
      simp only [↓wp_none, ↓wp_bool, ↓wp_int, ↓wp_glob, ↓wp_var, ↓wp_bin, ↓wp_not, ↓wp_and, ↓wp_or, ↓wp_cmp, ↓wp_cmp2, ↓wp_sub, ↓wp_oNone, ↓wp_oSome, ↓wp_tup, ↓wp_list, ↓wp_dict, ↓wp_callE, ↓wp_bf, ↓wp_bm, ↓wp_isinst, ↓wp_nil, ↓wp_cons, ↓wp_attr, ↓wp_umeth, ↓wp_new, ↓wps_nil, ↓wps_cons, ↓wps_expr, ↓wps_assign, ↓wps_ret, ↓wps_ite, ↓wps_raise, ↓wps_setattr, ↓wps_setitem, ↓wv_add, ↓wv_sub, ↓wv_mul, ↓wv_fdiv, ↓wv_mod, ↓wv_range, ↓wv_len_script, ↓wv_len_tup, ↓wv_max2, ↓go_eq, ↓go_ne, ↓go_neB, ↓go_isNotB, ↓go_isB, ↓go_lt, ↓go_gt, ↓go_le, ↓go_isNone_none, ↓go_isNone_int, ↓go_isNotNone_none, ↓go_isNotNone_int, ↓wi_int_int, ↓wi_int_bool, ↓wi_int_tup, ↓wi_int_list, ↓wi_bool_int, ↓wi_bool_bool, ↓wi_bool_tup, ↓wi_none_tup, ↓wi_none_int, ↓wi_str_tup, ↓wi_str_int, ↓wi_tup_tup, ↓wi_tup_int, ↓ws_tup0, ↓ws_tup1, ↓ws_tup2, ↓getV_zero, ↓getV_s, ↓getV_n, ↓getV_succ, ↓asBool_bool, ↓getO_some, ↓brB_true, ↓brB_false, ↓brB_not, ↓wp_ret, List.map_cons, List.map_nil, List.cons_append, List.nil_append, List.set_cons_zero, List.set_cons_succ, List.replicate_succ, List.replicate_zero, Bool.not_true, Bool.not_false, and_true, true_and, and_self]
      refine ⟨by decide, by decide, ?_⟩
      rw [brB_pos q]
      refine ⟨by decide, by decide, ?_⟩
      rw [show Int.fmod (Int.fdiv c 160) 8 = (j : Int) from hj]
      refine ws_list (get_new H _) (by omega) (v := .tup [.int ((sizes[j]).1 : Nat), .int ((sizes[j]).2 : Nat)]) ?_ ⟨rfl, ⟨_, rfl⟩⟩
      rw [Int.toNat_natCast]
      match j, lj with
      | 0, _ => rfl
      | 1, _ => rfl
      | 2, _ => rfl
      | 3, _ => rfl
      | 4, _ => rfl
      | 5, _ => rfl
      | 6, _ => rfl
      | 7, _ => rfl
  · obtain ⟨i, hi, li⟩ := fmod_nat c 4 (by decide)
    obtain ⟨j, hj, lj⟩ := fmod_nat (Int.fdiv c 4) 5 (by decide)
    refine ⟨1 + i, 1 + j, ⟨by unfold OkS; omega, by have := Nat.mul_le_mul (show 1 + i ≤ 4 by omega) (show 1 + j ≤ 5 by omega); omega⟩, fun H => ?_⟩
    rw [wp_call (g := f10_07) rfl rfl, f10_07]
    simp only [↓wp_none, ↓wp_bool, ↓wp_int, ↓wp_glob, ↓wp_var, ↓wp_bin, ↓wp_not, ↓wp_and, ↓wp_or, ↓wp_cmp, ↓wp_cmp2, ↓wp_sub, ↓wp_oNone, ↓wp_oSome, ↓wp_tup, ↓wp_list, ↓wp_dict, ↓wp_callE, ↓wp_bf, ↓wp_bm, ↓wp_isinst, ↓wp_nil, ↓wp_cons, ↓wp_attr, ↓wp_umeth, ↓wp_new, ↓wps_nil, ↓wps_cons, ↓wps_expr, ↓wps_assign, ↓wps_ret, ↓wps_ite, ↓wps_raise, ↓wps_setattr, ↓wps_setitem, ↓wv_add, ↓wv_sub, ↓wv_mul, ↓wv_fdiv, ↓wv_mod, ↓wv_range, ↓wv_len_script, ↓wv_len_tup, ↓wv_max2, ↓go_eq, ↓go_ne, ↓go_neB, ↓go_isNotB, ↓go_isB, ↓go_lt, ↓go_gt, ↓go_le, ↓go_isNone_none, ↓go_isNone_int, ↓go_isNotNone_none, ↓go_isNotNone_int, ↓wi_int_int, ↓wi_int_bool, ↓wi_int_tup, ↓wi_int_list, ↓wi_bool_int, ↓wi_bool_bool, ↓wi_bool_tup, ↓wi_none_tup, ↓wi_none_int, ↓wi_str_tup, ↓wi_str_int, ↓wi_tup_tup, ↓wi_tup_int, ↓ws_tup0, ↓ws_tup1, ↓ws_tup2, ↓getV_zero, ↓getV_s, ↓getV_n, ↓getV_succ, ↓asBool_bool, ↓getO_some, ↓brB_true, ↓brB_false, ↓brB_not, ↓wp_ret, List.map_cons, List.map_nil, List.cons_append, List.nil_append, List.set_cons_zero, List.set_cons_succ, List.replicate_succ, List.replicate_zero, Bool.not_true, Bool.not_false, and_true, true_and, and_self]
    refine ⟨by decide, by decide, ?_⟩
    rw [brB_neg q]
    refine ⟨by decide, by decide, by decide, ?_, Ext.refl H⟩
    rw [show Int.fmod c 4 = (i : Int) from hi, show Int.fmod (Int.fdiv c 4) 5 = (j : Int) from hj]
    rfl
theorem gr_nums {ns : List Int} {r c k : Nat} {x2 x3 : Val} {a5 : Option Val} (hS : OkS r c) (hk : k < r) : wpE T_07 (callF T_07 (d + 2)) (.comp (.call 12 (.cons (.var 0) (.cons (.bin .add (.bin .mul (.var 4) (.sub (.var 1) (.int 1))) (.var 6)) .nil))) (.bf .range (.cons (.sub (.var 1) (.int 1)) .nil)) .none) [some (.script ns), some (.tup [.int (r : Int), .int (c : Int)]), some x2, some x3, some (.int (k : Int)), a5] H
    (fun v K => ∃ nums : List Val, v = .loc H.length ∧ K = H ++ [.list nums] ∧ nums.length = c ∧ ∀ x ∈ nums, ∃ n : Int, x = .int n) NoE := by
  have hlid : lid = 16777216 := rfl
  unfold OkS at hS
  refine comp_pure (xs := rngL c) (src := none) (fun _ v => ∃ n : Int, v = .int n) (it_rng (by omega) ⟨rfl, rfl⟩) rfl (by rw [rngN_len]; omega) ?_ ?_
  · intro j x hx
    obtain ⟨rfl, lj⟩ := rngN_get hx
    obtain ⟨n, hn⟩ := l07_number (d := d) ns (k * c + j) (by have := Nat.mul_le_mul (show k ≤ 29 by omega) (show c ≤ 30 by omega); omega)
    show wpE _ _ _ [some (.script ns), some (.tup [.int (r : Int), .int (c : Int)]), some x2, some x3, some (.int (k : Int)), a5, some (.int (j : Int))] _ _ _
    simp only [↓wp_callE, ↓wp_cons, ↓wp_nil, ↓wp_var, ↓wp_bin, ↓wp_sub, ↓wp_int, ↓getV_s, ↓getV_zero, ↓getV_succ, ↓ws_tup1, ↓wv_mul, ↓wv_add]
    refine ⟨by rw [show small (k : Int) = true by unfold small; simp; omega]; rfl, ?_⟩
    rw [show (k : Int) * (c : Int) + (j : Int) = ((k * c + j : Nat) : Int) by rw [Int.natCast_add, Int.natCast_mul]]
    exact (hn H).then fun v H' h => ⟨⟨n, h.1⟩, h.2⟩
  · intro ys hl hp
    refine ⟨ys, rfl, rfl, hl.trans (rngN_len c), fun x hx => ?_⟩
    obtain ⟨j, hj⟩ := List.mem_iff_getElem?.mp hx
    exact hp j x hj
theorem gr_row {nums : List Val} {c l kind : Nat} {xs : List Val} {x0 x1 x4 : Val} (hl : H[l]? = some (.list xs)) (xl : xs.length < 1000) (cl : c ≤ 1000) (ln : nums.length = c) (hn : ∀ x ∈ nums, ∃ n : Int, x = .int n)
    (q : ∀ w : List Val, w.length = c → (∀ v ∈ w, HV v) → QS [some x0, some x1, some (.int (kind : Int)), some (.loc l), some x4, some (.loc H.length)] (((H ++ [HObj.list nums]) ++ [HObj.list w]).set l (HObj.list (xs ++ [Val.loc (H.length + 1)])))) :
    wpSs T_07 (callF T_07 (d + 2)) (.cons (.expr (.bm (.var 3) .append (.cons (.comp (.call 11 (.cons (.var 6) (.cons (.var 2) .nil))) (.var 5) .none) .nil))) .nil) [some x0, some x1, some (.int (kind : Int)), some (.loc l), some x4, some (.loc H.length)] (H ++ [HObj.list nums]) QS R NoX := by
  have hlid : lid = 16777216 := rfl
  have e1 : Ext H (H ++ [HObj.list nums]) := ⟨_, rfl⟩
  refine wps_ex (fun K => QS [some x0, some x1, some (.int (kind : Int)), some (.loc l), some x4, some (.loc H.length)] K) ?_ (fun K h => h)
  refine wp_appendE rfl (e1.get hl) ?_
  refine comp_pure (xs := nums) (src := some H.length) (fun _ v => HV v) ⟨rfl, iter_list (get_new H _)⟩ (chk_list (get_new H _)) (by omega) ?_ ?_
  · intro j x hx
    obtain ⟨n, rfl⟩ := hn x (List.mem_of_getElem? hx)
    obtain ⟨v, hv, hw⟩ := l07_by (d := d + 1) n kind (by omega)
    exact (hw _).then fun w H' h => ⟨h.1 ▸ hv, h.2⟩
  · intro ys hl' hp
    refine ⟨_, Ext.get ⟨_, rfl⟩ (e1.get hl), by omega, ?_⟩
    have : (H ++ [HObj.list nums]).length = H.length + 1 := by rw [List.length_append]; rfl
    rw [this]
    refine q ys (hl'.trans ln) fun x hx => ?_
    obtain ⟨j, hj⟩ := List.mem_iff_getElem?.mp hx
    exact hp j x hj
theorem gr_more {K : Hp} {l c k : Nat} {g : List (List Val)} {w nums : List Val} (og : OkG g k c) (G : GAt K l (l + 2) 2 g) (hK : K.length = l + 1 + 2 * k) (lw : w.length = c) (hw : ∀ v ∈ w, HV v) :
    OkG (g ++ [w]) (k + 1) c ∧ GAt (((K ++ [HObj.list nums]) ++ [HObj.list w]).set l (HObj.list ((List.range g.length).map (fun i => Val.loc (l + 2 + 2 * i)) ++ [Val.loc (K.length + 1)]))) l (l + 2) 2 (g ++ [w]) := by
  have lK : (K ++ [HObj.list nums]).length = K.length + 1 := by rw [List.length_append]; rfl
  have e2 : Ext K (K ++ [HObj.list nums] ++ [HObj.list w]) := ⟨[HObj.list nums, HObj.list w], by rw [List.append_assoc]; rfl⟩
  refine ⟨⟨by rw [List.length_append, og.len]; rfl, fun i z h => ?_⟩, ⟨?_, fun i z h => ?_⟩⟩
  · rcases app_get h with h | ⟨_, rfl⟩
    · exact og.row i z h
    · exact ⟨lw, hw⟩
  · rw [get_set _ (e2.get G.top), List.length_append, List.length_singleton, List.range_succ, List.map_append, List.map_singleton, og.len, hK, show l + 1 + 2 * k + 1 = l + 2 + 2 * k by omega]
  · rcases app_get h with h | ⟨rfl, rfl⟩
    · exact get_other _ (by omega) (e2.get (G.row i z h))
    · refine get_other _ (by omega) ?_
      have := get_new (K ++ [HObj.list nums]) (.list z)
      rw [lK, hK] at this
      rw [og.len, show l + 2 + 2 * k = l + 1 + 2 * k + 1 by omega]
      exact this
/- between two rows of the law's grid -/
inductive GInv (x0 x1 x2 : Val) (l c : Nat) : Nat → Env' → Hp → Prop
  | mk {k : Nat} {K : Hp} (g : List (List Val)) (a b : Option Val) (og : OkG g k c) (G : GAt K l (l + 2) 2 g) (hK : K.length = l + 1 + 2 * k) : GInv x0 x1 x2 l c k [some x0, some x1, some x2, some (.loc l), a, b] K
theorem l07_grid (ns : List Int) (hlen : ns.length ≤ 63) : Wp (callF T_07 (d + 3) 13 [.script ns]) H (fun v H' => ∃ r c g l, v = .loc l ∧ OkS r c ∧ r * c ≤ 132 ∧ OkG g r c ∧ GAt H' l (l + 2) 2 g) NoE := by
  obtain ⟨r, c, ⟨hS, hrc⟩, hsz⟩ := l07_size (d := d + 1) (cellAt ns 0)
  have hS' := hS
  unfold OkS at hS'
  rw [wp_call (g := f13_07) rfl rfl, f13_07]
  refine wps_asg (fun v H' => v = .tup [.int r, .int c] ∧ Ext H H') ?_ ?_
  · show Wp (callF T_07 (d + 2) 8 [.script ns, .int ((0 : Nat) : Int)]) H _ _
    rw [l07_cell]
    exact hsz H
  clear hsz
  rintro _ H1 ⟨rfl, e1⟩
  refine wps_no (fun K => H1 = K) ?_ ?_
  · rw [wp_and, wp_cmp, wp_var, getV_of (v := .tup [.int r, .int c]) rfl, wp_tup, wp_cons, wp_int, wp_cons, wp_int, wp_nil]
    rw [getO_of (show cmpV .eq (.tup [.int (r : Int), .int (c : Int)]) (.tup [.int 12, .int 11]) H1 = some ((r : Int) == 12 && ((c : Int) == 11 && true)) from rfl)]
    rw [asBool_bool]
    refine brB_cases (fun _ => ?_) (fun _ => ⟨rfl, rfl⟩)
    rw [wp_cmp, wp_bf, wp_cons, wp_var, getV_of (v := .script ns) rfl, wp_nil, wv_len_script, wp_int, go_gt]
    exact ⟨congrArg Val.bool (decide_eq_false (by omega)), rfl⟩
  rintro _ rfl
  refine wps_asg (fun v K => ∃ k : Nat, v = .int k ∧ H1 = K) ?_ ?_
  · show Wp (callF T_07 (d + 2) 8 [.script ns, .int ((1 : Nat) : Int)]) H1 _ _
    rw [l07_cell]
    obtain ⟨k, hk, _⟩ := fmod_nat (cellAt ns 1) 4 (by decide)
    exact ⟨by decide, k, congrArg Val.int hk, rfl⟩
  rintro _ _ ⟨kind, rfl, rfl⟩
  refine wps_asg (fun v K => v = .loc H1.length ∧ K = H1 ++ [.list []]) ⟨rfl, rfl⟩ ?_
  rintro _ _ ⟨rfl, rfl⟩
  obtain ⟨I, hI⟩ := hide3 (GInv (.script ns) (.tup [.int r, .int c]) (.int kind) H1.length c)
  refine wps_seq (I r) ?_ ?_
  · refine wps_eachR (n := r) I ⟨rfl, rfl⟩ ⟨by omega, by omega⟩ ((hI _ _ _).mpr (.mk [] _ _ ⟨rfl, fun i w h => nomatch h⟩ ⟨get_new H1 _, fun i w h => nomatch h⟩ (by rw [List.length_append]; rfl))) ?_ (fun Γ K h => by rw [Int.toNat_natCast] at h; exact h)
    intro k Γ K hk h
    obtain ⟨g, a, b, og, G, hK⟩ := (hI _ _ _).mp h
    refine wps_asg _ (gr_nums hS (by omega)) ?_
    rintro _ K1 ⟨nums, rfl, rfl, ln, hn⟩
    refine gr_row G.top (by rw [List.length_map, List.length_range, og.len]; omega) (by omega) ln hn fun w lw hw => (hI _ _ _).mpr ?_
    obtain ⟨og', G'⟩ := gr_more (nums := nums) og G hK lw hw
    exact .mk _ _ _ og' G' (by rw [List.length_set, List.length_append, List.length_append, hK]; show _ + 1 + 1 = _; omega)
  intro Γ K h
  obtain ⟨g, a, b, og, G, _⟩ := (hI _ _ _).mp h
  exact ⟨r, c, g, _, rfl, hS, hrc, og, G⟩
theorem w_or {a b : ME} {P : Hp → Prop} (h : wpE T Φ a Γ H (fun v H' => v = .bool false ∧ P H') NoE) (q : ∀ K, P K → wpE T Φ b Γ K Q NoE) : wpE T Φ (.or a b) Γ H Q NoE := by
  rw [wp_or]; refine wpE_then h ?_
  rintro v K ⟨rfl, p⟩; exact q K p
theorem w_not {a : ME} {b : Bool} {P : Hp → Prop} (h : wpE T Φ a Γ H (fun v H' => v = .bool b ∧ P H') NoE) : wpE T Φ (.not a) Γ H (fun v H' => v = .bool (!b) ∧ P H') NoE := by
  rw [wp_not]; refine wpE_then h ?_
  rintro v K ⟨rfl, p⟩; exact ⟨rfl, p⟩
/- two lists with the same items -/
theorem eq_lists {a b : Nat} {xs : List Val} {ds : List PyData} (ha : H[a]? = some (.list xs)) (hb : H[b]? = some (.list xs)) (hd : dats (dataOf H 5) xs = some ds) (hq : PyData.eqv (.list ds) (.list ds) = true) : pyEq H (.loc a) (.loc b) = some true := by
  have e : ∀ c, H[c]? = some (.list xs) → dataOf H deep (.loc c) = some (.list ds) := fun c hc => by
    have : dataOf H (5 + 1) (.loc c) = (match H[c]? with | some (.list xs) => (dats (dataOf H 5) xs).map .list | _ => none) := rfl
    show dataOf H (5 + 1) (.loc c) = _
    rw [this, hc]
    show (dats (dataOf H 5) xs).map PyData.list = _
    rw [hd]; rfl
  unfold pyEq
  rw [e a ha, e b hb]
  show some (PyData.eqv _ _) = _
  rw [hq]
theorem op_ne (K : Hp) (a b : Val) (h : pyEq K a b = some true) : cmpV .ne a b K = some false := by
  show flip true (pyEq K a b) = _
  rw [h]; rfl
/- `rows[0]` -/
theorem row0 {l b s r c : Nat} {g : List (List Val)} (hS : OkS r c) (og : OkG g r c) (G : GAt H l b s g) : ∃ w x, g[0]? = some w ∧ w[0]? = some x ∧ HV x ∧ w.length = c ∧ ((List.range g.length).map fun i => Val.loc (b + s * i))[0]? = some (.loc b) ∧ H[b]? = some (.list w) := by
  unfold OkS at hS
  have lt : 0 < g.length := by rw [og.len]; omega
  have hg : g[0]? = some g[0] := List.getElem?_eq_getElem lt
  obtain ⟨lw, hw⟩ := og.row 0 _ hg
  have lt' : 0 < g[0].length := by omega
  have hx : g[0][0]? = some g[0][0] := List.getElem?_eq_getElem lt'
  exact ⟨g[0], g[0][0], hg, hx, hw _ (List.mem_of_getElem? hx), lw, G.item lt, G.row 0 _ hg⟩
theorem LandAt.sink {o r c lg b s ls : Nat} {g : List (List Val)} {es es' : List (Key × Val)} (L : LandAt H o r c lg b s ls g es) : LandAt (H.set ls (.dict es')) o r c lg b s ls g es' := by
  obtain ⟨fs, h0, h⟩ := L.inst
  have hs := L.sinks
  exact ⟨⟨fs, get_other _ (fun q => by rw [q, h0] at hs; cases hs) h0, h⟩, L.grid.other _ (fun q => by have := L.grid.top; rw [← q, hs] at this; cases this) (fun i hi q => by have := L.grid.row i _ (List.getElem?_eq_getElem hi); rw [← q, hs] at this; cases this), get_set _ hs⟩
theorem len_rows {l b s r c : Nat} {g : List (List Val)} (og : OkG g r c) : ((List.range g.length).map fun i => Val.loc (b + s * i)).length = r := by rw [List.length_map, List.length_range, og.len]
end
end Mine.Pure

-- part L7I
namespace Mine.Pure
open PySem Pile
/-! ## dicts -/
theorem dget_put (es : List (Key × Val)) (k : Key) (v : Val) (k' : Key) : dget (dput es k v) k' = if k' = k then some v else dget es k' := by
  unfold dget
  induction es with
  | nil =>
    show List.lookup k' [(k, v)] = _
    rw [List.lookup_cons]
    by_cases q : k' = k
    · rw [if_pos q, q, beq_self_eq_true]
    · rw [if_neg q, beq_eq_false_iff_ne.mpr q]
  | cons e es ih =>
    obtain ⟨a, b⟩ := e
    have st : dput ((a, b) :: es) k v = if a = k then (a, v) :: es else (a, b) :: dput es k v := rfl
    rw [st]
    by_cases q : a = k
    · subst q
      rw [if_pos rfl, List.lookup_cons, List.lookup_cons]
      by_cases c : k' = a
      · rw [if_pos c, c, beq_self_eq_true]
      · rw [if_neg c, beq_eq_false_iff_ne.mpr c]
    · rw [if_neg q, List.lookup_cons, List.lookup_cons, ih]
      by_cases c : k' = a
      · rw [c, beq_self_eq_true, if_neg q]
        exact (if_neg q).symm
      · rw [beq_eq_false_iff_ne.mpr c]
theorem dput_len (es : List (Key × Val)) (k : Key) (v : Val) : (dput es k v).length ≤ es.length + 1 := by
  induction es with
  | nil => exact Nat.le_refl _
  | cons e es ih =>
    obtain ⟨a, b⟩ := e
    have st : dput ((a, b) :: es) k v = if a = k then (a, v) :: es else (a, b) :: dput es k v := rfl
    rw [st]
    by_cases q : a = k
    · rw [if_pos q]; simp
    · rw [if_neg q]; simp; omega
/- a dict of levels -/
noncomputable def Has (es : List (Key × Val)) (F : Key → Option Int) : Prop := ∀ k, dget es k = (F k).map Val.int
theorem Has.put {es : List (Key × Val)} {F : Key → Option Int} (h : Has es F) (q : Key) (v : Int) : Has (dput es q (.int v)) (upd F q v) := by
  intro k
  rw [dget_put]
  by_cases c : k = q
  · rw [if_pos c, c, upd_self]; rfl
  · rw [if_neg c, upd_ne _ _ c]; exact h k
section
variable {T : Tab} {Φ : Funs} {Γ : Env'} {H : Hp} {Q : Val → Hp → Prop} {E : Nat → Hp → Prop} {d l : Nat} {QS : Env' → Hp → Prop} {R : Val → Hp → Prop} {ES : Nat → Env' → Hp → Prop}
theorem ws_dict {l : Nat} {es : List (Key × Val)} {i j : Int} {v : Val} (h : H[l]? = some (.dict es)) (hv : dget es (i, j) = some v) : Wp (subV (.loc l) (.tup [.int i, .int j])) H Q E = Q v H := by
  have : subV (.loc l) (.tup [.int i, .int j]) H = .ok v H := by
    unfold subV; rw [look_at]
    simp only [h]
    rw [show (keyOf (.tup [.int i, .int j])).bind (dget es) = dget es (i, j) from rfl, hv]
  unfold Wp; rw [this]
theorem wa_dict {l : Nat} {es : List (Key × Val)} {i j : Int} {v : Val} {Q : Unit → Hp → Prop} (h : H[l]? = some (.dict es)) (hl : es.length < lid) : Wp (setitemV (.loc l) (.tup [.int i, .int j]) v) H Q E = Q () (H.set l (.dict (dput es (i, j) v))) := by
  have : setitemV (.loc l) (.tup [.int i, .int j]) v H = .ok () (H.set l (.dict (dput es (i, j) v))) := by
    unfold setitemV; simp only [h]
    exact if_pos hl
  unfold Wp; rw [this]
theorem notin_dict {l : Nat} {es : List (Key × Val)} {i j : Int} (h : H[l]? = some (.dict es)) : cmpV .notin (.tup [.int i, .int j]) (.loc l) H = some (!(dget es (i, j)).isSome) := by
  have e : cmpV .notin (.tup [.int i, .int j]) (.loc l) H = flip true (inV (.tup [.int i, .int j]) (.loc l) H) := rfl
  rw [e]
  unfold inV
  simp only [h]
  rfl
theorem wm_get {l : Nat} {es : List (Key × Val)} {i j : Int} (h : H[l]? = some (.dict es)) : Wp (bmV .get (.loc l) [.tup [.int i, .int j]]) H Q E = Q ((dget es (i, j)).getD .none) H := by
  have : bmV .get (.loc l) [.tup [.int i, .int j]] H = .ok ((dget es (i, j)).getD .none) H := by
    unfold bmV; simp only [h]
    rfl
  unfold Wp; rw [this]
theorem fits_get {l : Nat} {es : List (Key × Val)} (h : H[l]? = some (.dict es)) : bmFits .get (.loc l) H = some () := by
  unfold bmFits; simp only [h]
/-! ## cells -/
noncomputable def inR (r c : Nat) (k : Key) : Bool := decide (0 ≤ k.1 ∧ k.1 < r ∧ 0 ≤ k.2 ∧ k.2 < c)
theorem inR_nat {r c : Nat} {k : Key} (h : inR r c k = true) : ∃ i j : Nat, k = ((i : Int), (j : Int)) ∧ i < r ∧ j < c := by
  obtain ⟨a, b⟩ := k
  have h : 0 ≤ a ∧ a < r ∧ 0 ≤ b ∧ b < c := of_decide_eq_true h
  exact ⟨a.toNat, b.toNat, Prod.ext (show a = (a.toNat : Int) by omega) (show b = (b.toNat : Int) by omega), by omega, by omega⟩
theorem inR_of {r c i j : Nat} (hi : i < r) (hj : j < c) : inR r c ((i : Int), (j : Int)) = true := decide_eq_true (show 0 ≤ (i : Int) ∧ (i : Int) < r ∧ 0 ≤ (j : Int) ∧ (j : Int) < c by omega)
noncomputable def gval (g : List (List Val)) (k : Key) : Option Val := (g[k.1.toNat]?).bind fun w => w[k.2.toNat]?
noncomputable def ival : Option Val → Option Int
  | some (.int i) => some i
  | _ => none
/- the height of a cell -/
noncomputable def hgt (g : List (List Val)) (r c : Nat) (k : Key) : Option Int := if inR r c k = true then ival (gval g k) else none
theorem hgt_in {g : List (List Val)} {r c : Nat} {k : Key} {a : Int} (h : hgt g r c k = some a) : inR r c k = true := by
  unfold hgt at h
  by_cases q : inR r c k = true
  · exact q
  · rw [if_neg q] at h; cases h
theorem hgt_at {g : List (List Val)} {r c i j : Nat} (og : OkG g r c) (hi : i < r) (hj : j < c) : ∃ w x, g[i]? = some w ∧ w[j]? = some x ∧ ((x = .none ∧ hgt g r c ((i : Int), (j : Int)) = none) ∨ ∃ n, x = .int n ∧ 0 ≤ n ∧ hgt g r c ((i : Int), (j : Int)) = some n) := by
  obtain ⟨w, hw⟩ : ∃ w, g[i]? = some w := ⟨_, List.getElem?_eq_getElem (by rw [og.len]; exact hi)⟩
  obtain ⟨lw, hv⟩ := og.row i _ hw
  obtain ⟨x, hx⟩ : ∃ x, w[j]? = some x := ⟨_, List.getElem?_eq_getElem (by rw [lw]; exact hj)⟩
  have e : gval g ((i : Int), (j : Int)) = some x := by
    show (g[((i : Int)).toNat]?).bind (fun w => w[((j : Int)).toNat]?) = _
    rw [Int.toNat_natCast, Int.toNat_natCast, hw]
    exact hx
  refine ⟨w, x, hw, hx, ?_⟩
  unfold hgt
  rw [if_pos (inR_of hi hj), e]
  rcases hv _ (List.mem_of_getElem? hx) with q | ⟨n, q, h0, _⟩
  · rw [q]; exact .inl ⟨rfl, rfl⟩
  · rw [q]; exact .inr ⟨n, rfl, h0, rfl⟩
noncomputable def bes (r c : Nat) (i j : Int) : List Key := (nears i j).filter (inR r c)
theorem mem_nears {i j : Int} {q : Key} : q ∈ nears i j ↔ Adj (i, j) q := Iff.rfl
theorem mem_bes {r c : Nat} {i j : Int} {q : Key} : q ∈ bes r c i j ↔ (Adj (i, j) q ∧ inR r c q = true) := by
  unfold bes; rw [List.mem_filter, mem_nears]
theorem bes_len (r c : Nat) (i j : Int) : (bes r c i j).length ≤ 4 := List.length_filter_le _ _
theorem l07_wholeB {x lo hi : Int} : Wp (callF T_07 (d + 1) 0 [.int x, .int lo, .int hi]) H Q E = Q (.bool (decide (lo ≤ x ∧ x ≤ hi))) H := by
  rw [wp_call (g := f0_07) rfl rfl, f0_07]
  simp only [↓wp_none, ↓wp_bool, ↓wp_int, ↓wp_glob, ↓wp_var, ↓wp_bin, ↓wp_not, ↓wp_and, ↓wp_or, ↓wp_cmp, ↓wp_cmp2, ↓wp_sub, ↓wp_oNone, ↓wp_oSome, ↓wp_tup, ↓wp_list, ↓wp_dict, ↓wp_callE, ↓wp_bf, ↓wp_bm, ↓wp_isinst, ↓wp_nil, ↓wp_cons, ↓wp_attr, ↓wp_umeth, ↓wp_new, ↓wps_nil, ↓wps_cons, ↓wps_expr, ↓wps_assign, ↓wps_ret, ↓wps_ite, ↓wps_raise, ↓wps_setattr, ↓wps_setitem, ↓wv_add, ↓wv_sub, ↓wv_mul, ↓wv_fdiv, ↓wv_mod, ↓wv_range, ↓wv_len_script, ↓wv_len_tup, ↓wv_max2, ↓go_eq, ↓go_ne, ↓go_neB, ↓go_isNotB, ↓go_isB, ↓go_lt, ↓go_gt, ↓go_le, ↓go_isNone_none, ↓go_isNone_int, ↓go_isNotNone_none, ↓go_isNotNone_int, ↓wi_int_int, ↓wi_int_bool, ↓wi_int_tup, ↓wi_int_list, ↓wi_bool_int, ↓wi_bool_bool, ↓wi_bool_tup, ↓wi_none_tup, ↓wi_none_int, ↓wi_str_tup, ↓wi_str_int, ↓wi_tup_tup, ↓wi_tup_int, ↓ws_tup0, ↓ws_tup1, ↓ws_tup2, ↓getV_zero, ↓getV_s, ↓getV_n, ↓getV_succ, ↓asBool_bool, ↓getO_some, ↓brB_true, ↓brB_false, ↓brB_not, ↓wp_ret, List.map_cons, List.map_nil, List.cons_append, List.nil_append, List.set_cons_zero, List.set_cons_succ, List.replicate_succ, List.replicate_zero, Bool.not_true, Bool.not_false, and_true, true_and, and_self]
  by_cases h1 : lo ≤ x
  · rw [brB_pos h1, show decide (x ≤ hi) = decide (lo ≤ x ∧ x ≤ hi) from decide_eq_decide.mpr ⟨fun h => ⟨h1, h⟩, fun h => h.2⟩]
  · rw [brB_neg h1, show decide (lo ≤ x ∧ x ≤ hi) = false from decide_eq_false fun h => h1 h.1]
theorem l07_liesB {r c : Nat} {i j : Int} : Wp (callF T_07 (d + 2) 1 [.int (r : Int), .int (c : Int), .tup [.int i, .int j]]) H Q E = Q (.bool (inR r c (i, j))) H := by
  rw [wp_call (g := f1_07) rfl rfl, f1_07]
  simp only [↓wp_none, ↓wp_bool, ↓wp_int, ↓wp_glob, ↓wp_var, ↓wp_bin, ↓wp_not, ↓wp_and, ↓wp_or, ↓wp_cmp, ↓wp_cmp2, ↓wp_sub, ↓wp_oNone, ↓wp_oSome, ↓wp_tup, ↓wp_list, ↓wp_dict, ↓wp_callE, ↓wp_bf, ↓wp_bm, ↓wp_isinst, ↓wp_nil, ↓wp_cons, ↓wp_attr, ↓wp_umeth, ↓wp_new, ↓wps_nil, ↓wps_cons, ↓wps_expr, ↓wps_assign, ↓wps_ret, ↓wps_ite, ↓wps_raise, ↓wps_setattr, ↓wps_setitem, ↓wv_add, ↓wv_sub, ↓wv_mul, ↓wv_fdiv, ↓wv_mod, ↓wv_range, ↓wv_len_script, ↓wv_len_tup, ↓wv_max2, ↓go_eq, ↓go_ne, ↓go_neB, ↓go_isNotB, ↓go_isB, ↓go_lt, ↓go_gt, ↓go_le, ↓go_isNone_none, ↓go_isNone_int, ↓go_isNotNone_none, ↓go_isNotNone_int, ↓wi_int_int, ↓wi_int_bool, ↓wi_int_tup, ↓wi_int_list, ↓wi_bool_int, ↓wi_bool_bool, ↓wi_bool_tup, ↓wi_none_tup, ↓wi_none_int, ↓wi_str_tup, ↓wi_str_int, ↓wi_tup_tup, ↓wi_tup_int, ↓ws_tup0, ↓ws_tup1, ↓ws_tup2, ↓getV_zero, ↓getV_s, ↓getV_n, ↓getV_succ, ↓asBool_bool, ↓getO_some, ↓brB_true, ↓brB_false, ↓brB_not, ↓wp_ret, List.map_cons, List.map_nil, List.cons_append, List.nil_append, List.set_cons_zero, List.set_cons_succ, List.replicate_succ, List.replicate_zero, Bool.not_true, Bool.not_false, and_true, true_and, and_self]
  rw [l07_wholeB, asBool_bool]
  have e : ∀ b, b = inR r c (i, j) → Q (.bool b) H = Q (.bool (inR r c (i, j))) H := fun b h => by rw [h]
  rw [brB_pos (show (([Val.int i, Val.int j].length : Nat) : Int) = 2 from rfl)]
  by_cases h1 : 0 ≤ i ∧ i ≤ (r : Int) - 1
  · rw [brB_pos h1, l07_wholeB]
    exact e _ (decide_eq_decide.mpr ⟨fun h => ⟨by omega, by omega, by omega, by omega⟩, fun h => ⟨by have := h.2.2.1; omega, by have := h.2.2.2; omega⟩⟩)
  · rw [brB_neg h1]
    exact e _ (decide_eq_false fun h => h1 ⟨h.1, by have := h.2.1; omega⟩).symm
theorem map_get {ks : List Key} {n : Nat} {x : Val} (h : (ks.map valOf)[n]? = some x) : ∃ q, ks[n]? = some q ∧ x = valOf q := by
  rw [List.getElem?_map] at h
  cases e : ks[n]? with
  | none => rw [e] at h; cases h
  | some q => rw [e] at h; cases h; exact ⟨q, rfl, rfl⟩
/- the cells of a list for which a test holds -/
theorem wp_pick {it c : ME} {ks : List Key} {p : Key → Bool} {n : Nat} (hn : Γ.length = n) (hl : H[l]? = some (.list (ks.map valOf))) (kl : ks.length < 1000) (hit : wpE T Φ it Γ H (fun v H' => v = .loc l ∧ H' = H) NoE)
    (ht : ∀ q ∈ ks, wpE T Φ c (Γ ++ [some (valOf q)]) H (fun v H' => v = .bool (p q) ∧ H' = H) NoE) (q : Q (.loc H.length) (H ++ [.list ((ks.filter p).map valOf)])) : wpE T Φ (.comp (.var n) it (.some c)) Γ H Q E := by
  have hlid : lid = 16777216 := rfl
  refine wp_comp (wpE_then hit ?_)
  rintro v H' ⟨rfl, rfl⟩
  rw [getO_of (iter_list hl)]
  refine wp_compN (fun k out K => K = H' ∧ out = ((ks.take k).filter p).map valOf) ⟨rfl, rfl⟩ ?_ ?_ ?_
  · rintro k out K ⟨rfl, _⟩; exact chk_list hl
  · rintro k x out K hx ⟨rfl, rfl⟩
    obtain ⟨q, hq, rfl⟩ := map_get hx
    refine wp_step (wpE_then (ht q (List.mem_of_getElem? hq)) ?_)
    rintro v K' ⟨rfl, rfl⟩
    rw [asBool_bool, take_snoc hq, List.filter_append, List.map_append]
    refine brB_cases (fun h => ?_) (fun h => ?_)
    · rw [List.filter_cons_of_pos h, wp_var, getV_get, List.getElem?_append_right (by omega), hn, Nat.sub_self]
      exact ⟨rfl, rfl⟩
    · rw [List.filter_cons_of_neg (by rw [h]; exact Bool.false_ne_true)]
      exact ⟨rfl, rfl⟩
  · rintro zs K ⟨rfl, rfl⟩
    rw [show ks.take (List.map valOf ks).length = ks by rw [List.length_map]; exact List.take_length]
    refine ⟨?_, q⟩
    rw [List.length_map]
    have := List.length_filter_le p ks
    omega
theorem l07_beside {r c : Nat} {i j : Int} : Wp (callF T_07 (d + 3) 2 [.int (r : Int), .int (c : Int), .tup [.int i, .int j]]) H (fun v H' => ∃ m, v = .loc m ∧ H.length ≤ m ∧ Ext H H' ∧ H'[m]? = some (.list ((bes r c i j).map valOf))) NoE := by
  rw [wp_call (g := f2_07) rfl rfl, f2_07]
  show wpE T_07 (callF T_07 (d + 2)) (.comp (.var 6) (.var 5) (.some (.call 1 (.cons (.var 0) (.cons (.var 1) (.cons (.var 6) .nil)))))) [some (.int (r : Int)), some (.int (c : Int)), some (.tup [.int i, .int j]), some (.int i), some (.int j), some (.loc H.length)] (H ++ [HObj.list ((nears i j).map valOf)]) _ _
  have e0 : Ext H (H ++ [HObj.list ((nears i j).map valOf)]) := ⟨_, rfl⟩
  refine wp_pick (l := H.length) (ks := nears i j) (p := inR r c) rfl (get_new H _) (show 4 < 1000 by decide) ⟨rfl, rfl⟩ (fun q _ => ?_) ⟨_, rfl, by rw [List.length_append]; omega, e0.new _, get_new _ _⟩
  show Wp (callF T_07 (d + 2) 1 [.int (r : Int), .int (c : Int), .tup [.int q.1, .int q.2]]) _ _ _
  rw [l07_liesB]
  exact ⟨rfl, rfl⟩
end
end Mine.Pure

-- part L7J
namespace Mine.Pure
open PySem Pile
/- the flood's own objects, all new: found, goals, the pile and its list -/
structure FS (H K : Hp) (lf lo lp lh : Nat) (es gs : List (Key × Val)) (xs : List Val) : Prop where
  ext : Ext H K
  bf : H.length ≤ lf
  bo : H.length ≤ lo
  bh : H.length ≤ lh
  ne : lf ≠ lo
  f : K[lf]? = some (.dict es)
  o : K[lo]? = some (.dict gs)
  p : K[lp]? = some (.inst 6 [(4, .loc lh)])
  h : K[lh]? = some (.list xs)
section
variable {H K : Hp} {lf lo lp lh : Nat} {es gs : List (Key × Val)} {xs : List Val}
theorem FS.more {K' : Hp} (x : FS H K lf lo lp lh es gs xs) (e : Ext K K') : FS H K' lf lo lp lh es gs xs := ⟨x.ext.trans e, x.bf, x.bo, x.bh, x.ne, e.get x.f, e.get x.o, e.get x.p, e.get x.h⟩
theorem ne_of_get {K : Hp} {a b : Nat} {o o' : HObj} (h : K[a]? = some o) (h' : K[b]? = some o') (n : o ≠ o') : a ≠ b := fun e => n (Option.some.inj (by rw [← h, ← h', e]))
theorem FS.setF (x : FS H K lf lo lp lh es gs xs) (es' : List (Key × Val)) : FS H (K.set lf (.dict es')) lf lo lp lh es' gs xs :=
  ⟨x.ext.set x.bf _, x.bf, x.bo, x.bh, x.ne, get_set _ x.f, get_other _ x.ne x.o, get_other _ (ne_of_get x.f x.p (by intro c; cases c)) x.p, get_other _ (ne_of_get x.f x.h (by intro c; cases c)) x.h⟩
theorem FS.setO (x : FS H K lf lo lp lh es gs xs) (gs' : List (Key × Val)) : FS H (K.set lo (.dict gs')) lf lo lp lh es gs' xs :=
  ⟨x.ext.set x.bo _, x.bf, x.bo, x.bh, x.ne, get_other _ (Ne.symm x.ne) x.f, get_set _ x.o, get_other _ (ne_of_get x.o x.p (by intro c; cases c)) x.p, get_other _ (ne_of_get x.o x.h (by intro c; cases c)) x.h⟩
theorem FS.setH (x : FS H K lf lo lp lh es gs xs) (ys : List Val) : FS H (K.set lh (.list ys)) lf lo lp lh es gs ys :=
  ⟨x.ext.set x.bh _, x.bf, x.bo, x.bh, x.ne, get_other _ (ne_of_get x.h x.f (by intro c; cases c)) x.f, get_other _ (ne_of_get x.h x.o (by intro c; cases c)) x.o, get_other _ (ne_of_get x.h x.p (by intro c; cases c)) x.p, get_set _ x.h⟩
theorem FS.only {K' : Hp} {ys : List Val} (x : FS H K lf lo lp lh es gs xs) (o : Only lh K K') (h : K'[lh]? = some (.list ys)) : FS H K' lf lo lp lh es gs ys :=
  ⟨ext_of fun m ob hm => o.keep m ob (by have := lt_of_get hm; have := x.bh; omega) (x.ext.get hm), x.bf, x.bo, x.bh, x.ne, o.keep _ _ (ne_of_get x.f x.h (by intro c; cases c)) x.f, o.keep _ _ (ne_of_get x.o x.h (by intro c; cases c)) x.o, o.keep _ _ (ne_of_get x.p x.h (by intro c; cases c)) x.p, h⟩
theorem FS.lt (x : FS H K lf lo lp lh es gs xs) : lh < K.length := lt_of_get x.h
end
/-! ## the cells, as keys -/
noncomputable def keys (r c : Nat) : List Key := (List.range r).flatMap fun (i : Nat) => (List.range c).map fun (j : Nat) => ((i : Int), (j : Int))
theorem keys_cells (r c : Nat) : (keys r c).map valOf = cells r c := by
  unfold keys cells rowCells
  rw [List.map_flatMap]
  congr 1
  funext i
  rw [List.map_map]; rfl
theorem keys_len (r c : Nat) : (keys r c).length = r * c := by
  rw [← cells_len, ← keys_cells, List.length_map]
theorem mem_keys {r c : Nat} {k : Key} : k ∈ keys r c ↔ inR r c k = true := by
  unfold keys
  constructor
  · intro h
    obtain ⟨i, hi, h⟩ := List.mem_flatMap.mp h
    obtain ⟨j, hj, rfl⟩ := List.mem_map.mp h
    exact inR_of (List.mem_range.mp hi) (List.mem_range.mp hj)
  · intro h
    obtain ⟨i, j, rfl, hi, hj⟩ := inR_nat h
    exact List.mem_flatMap.mpr ⟨i, List.mem_range.mpr hi, List.mem_map.mpr ⟨j, List.mem_range.mpr hj, rfl⟩⟩
theorem valOf_inj {a b : Key} (h : valOf a = valOf b) : a = b := by
  have : keyOf (valOf a) = keyOf (valOf b) := by rw [h]
  exact Option.some.inj this
theorem row_nodup (i c : Nat) : (rowCells i c).Nodup := by
  induction c with
  | zero => exact List.nodup_nil
  | succ c ih =>
    rw [rowCells_succ]
    refine nodup_snoc ih fun h => ?_
    unfold rowCells at h
    obtain ⟨j, hj, e⟩ := List.mem_map.mp h
    have := valOf_inj (a := ((i : Int), (j : Int))) (b := ((i : Int), (c : Int))) e
    have := (Prod.mk.inj this).2
    have := List.mem_range.mp hj
    omega
theorem cells_nodup (r c : Nat) : (cells r c).Nodup := by
  induction r with
  | zero => exact List.nodup_nil
  | succ r ih =>
    rw [cells_succ, List.nodup_append]
    refine ⟨ih, row_nodup r c, fun a ha b hb e => ?_⟩
    obtain ⟨i, j, rfl, hi, _⟩ := cell_mem ha
    unfold rowCells at hb
    obtain ⟨j', _, rfl⟩ := List.mem_map.mp hb
    have := valOf_inj (a := ((i : Int), (j : Int))) (b := ((r : Int), (j' : Int))) e
    have := (Prod.mk.inj this).1
    omega
theorem not_take {α : Type} {l : List α} {n : Nat} {x : α} (h : l.Nodup) (hx : l[n]? = some x) : ¬ x ∈ l.take n := by
  intro c
  obtain ⟨m, hm⟩ := List.mem_iff_getElem?.mp c
  have lm : m < n := by
    have := (List.getElem?_eq_some_iff.mp hm).1
    rw [List.length_take] at this; omega
  rw [List.getElem?_take_of_lt lm] at hm
  obtain ⟨l1, e1⟩ := List.getElem?_eq_some_iff.mp hx
  obtain ⟨l2, e2⟩ := List.getElem?_eq_some_iff.mp hm
  have := (List.getElem_inj (h₀ := l2) (h₁ := l1) h).mp (by rw [e1, e2])
  omega
theorem filter_lt {p : Key} {U : List Key} (h : p ∈ U) : (U.filter fun k => decide (k ≠ p)).length + 1 ≤ U.length := by
  have := List.length_filter_lt_length_iff_exists (p := fun k => decide (k ≠ p)) (l := U)
  have := this.mpr ⟨p, h, by simp⟩
  omega
theorem mem_take_succ {α : Type} {l : List α} {n : Nat} {x y : α} (h : l[n]? = some x) : y ∈ l.take (n + 1) ↔ (y ∈ l.take n ∨ y = x) := by
  rw [take_snoc h, List.mem_append, List.mem_singleton]
end Mine.Pure

-- part L7K
namespace Mine.Pure
open PySem Pile
theorem Fl.close {h : Key → Option Int} {D C : Key → Prop} {O O' : Key → Key → Prop} {F : Key → Option Int} {xs : List Val} {U : List Key} {m : Int} (x : Fl h D C O F xs U m) (hc : ∀ p q a, O p q → Adj p q → h q = some a → False) : Fl h D C O' F xs U m :=
  ⟨x.ents, x.nd, x.here, x.done, x.seen, x.drain, x.snd, fun p fp hf hp q hq _ a ha => by
    by_cases o : O p q
    · exact (hc p q a o hq ha).elim
    · exact x.near p fp hf hp q hq o a ha⟩
theorem Fl.dc {h : Key → Option Int} {D C : Key → Prop} {O : Key → Key → Prop} {F : Key → Option Int} {xs : List Val} {U : List Key} {m : Int} (x : Fl h D C O F xs U m) : ∀ y ∈ xs, DC y := fun y hy => by
  obtain ⟨l, k, rfl, _⟩ := x.ents y hy
  exact ent_dc l k
section
variable {H K : Hp} {d : Nat} {QS : Env' → Hp → Prop} {R : Val → Hp → Prop} {o r c lg b s ls lf lo lp lh : Nat} {g : List (List Val)} {es0 es gs : List (Key × Val)} {xs : List Val} {D : Key → Prop} {F : Key → Option Int} {U : List Key} {L m : Int} {x4 x5 x6 x7 x8 : Option Val}
/- one cell is found, or found lower -/
theorem fl_store {i j : Nat} {p : Key} {v : Int} (x : FS H K lf lo lp lh es gs xs) (dc : ∀ y ∈ xs, DC y) (pile : IsPile klt xs) (n1 : xs.length < 1000) (n2 : es.length < 2000) (n3 : gs.length < 2000)
    (q : ∀ K' ys, FS H K' lf lo lp lh (dput es ((i : Int), (j : Int)) (.int v)) (dput gs ((i : Int), (j : Int)) (valOf p)) ys → ys.Perm (xs ++ [ent v ((i : Int), (j : Int))]) → IsPile klt ys → (∀ m, m ≠ lf → m ≠ lo → m ≠ lh → K'[m]? = K[m]?) → QS [some (.loc o), some (.loc lf), some (.loc lo), some (.loc lp), some (.tup [.int (i : Int), .int (j : Int)]), some (ent L p), x6, some (.int v)] K') :
    wpSs T_07 (callF T_07 (d + 4)) (.cons (.setitem (.var 1) (.var 4) (.var 7)) (.cons (.setitem (.var 2) (.var 4) (.sub (.var 5) (.int 1))) (.cons (.expr (.umeth (.var 3) 6 (.cons (.tup (.cons (.var 7) (.cons (.var 4) .nil))) .nil))) .nil)))
      [some (.loc o), some (.loc lf), some (.loc lo), some (.loc lp), some (.tup [.int (i : Int), .int (j : Int)]), some (ent L p), x6, some (.int v)] K QS R NoX := by
  have hlid : lid = 16777216 := rfl
  have x1 := x.setF (dput es ((i : Int), (j : Int)) (.int v))
  have x2 := x1.setO (dput gs ((i : Int), (j : Int)) (valOf p))
  simp only [↓wps_cons, ↓wps_setitem, ↓wps_expr, ↓wps_nil, ↓wp_var, ↓wp_sub, ↓wp_int, ↓wp_umeth, ↓wp_cons, ↓wp_nil, ↓wp_tup, ↓getV_s, ↓getV_zero, ↓getV_succ]
  rw [wa_dict x.f (by omega)]
  show Wp (setitemV (.loc lo) (.tup [.int (i : Int), .int (j : Int)]) (valOf p)) _ _ _
  rw [wa_dict x1.o (by omega), wu_meth x2.p (show T_07.meth 6 6 = some 27 from rfl)]
  refine (l07_put (d + 3) dom_cell x2.p x2.h dc (ent_dc v ((i : Int), (j : Int))) pile n1).then ?_
  rintro w K' ⟨_, ys, rfl, hp, hpile⟩
  refine q _ ys (x2.setH ys) hp hpile fun m h1 h2 h3 => ?_
  rw [List.getElem?_set_ne (Ne.symm h3), List.getElem?_set_ne (Ne.symm h2), List.getElem?_set_ne (Ne.symm h1)]
/- whether it is to be stored -/
theorem fl_cond {i j : Nat} {a : Int} (x : FS H K lf lo lp lh es gs xs) (hes : Has es F) : ∃ t : Bool, (t = true → ∀ f, F ((i : Int), (j : Int)) = some f → a < f) ∧ (t = false → ∃ f, F ((i : Int), (j : Int)) = some f ∧ f ≤ a) ∧
    wpE T_07 (callF T_07 (d + 4)) (.or (.cmp .notin (.var 4) (.var 1)) (.cmp .lt (.var 7) (.sub (.var 1) (.var 4)))) [x4, some (.loc lf), x5, x6, some (.tup [.int (i : Int), .int (j : Int)]), x7, x8, some (.int a)] K (fun v K' => v = .bool t ∧ K' = K) NoE := by
  have hk := hes ((i : Int), (j : Int))
  cases hf : F ((i : Int), (j : Int)) with
  | none =>
    rw [hf] at hk
    refine ⟨true, (fun _ f h => nomatch h), (fun h => nomatch h), ?_⟩
    simp only [↓wp_or, ↓wp_cmp, ↓wp_var, ↓wp_sub, ↓getV_s, ↓getV_zero, ↓getV_succ]
    rw [getO_of (notin_dict x.f), hk]
    exact ⟨trivial, trivial⟩
  | some f =>
    rw [hf] at hk
    refine ⟨decide (a < f), fun h f' h' => ?_, fun h => ⟨f, rfl, ?_⟩, ?_⟩
    · cases h'; exact of_decide_eq_true h
    · have := of_decide_eq_false h; omega
    · simp only [↓wp_or, ↓wp_cmp, ↓wp_var, ↓wp_sub, ↓getV_s, ↓getV_zero, ↓getV_succ]
      rw [getO_of (notin_dict x.f), hk]
      show Wp (subV (.loc lf) (.tup [.int (i : Int), .int (j : Int)])) K _ _
      rw [ws_dict x.f hk]
      exact ⟨rfl, rfl⟩
theorem fl_in {O O' : Key → Key → Prop} {p q : Key} (og : OkG g r c) (LA : LandAt H o r c lg b s ls g es0) (x : FS H K lf lo lp lh es gs xs) (hes : Has es F) (fl : Fl (hgt g r c) D (fun k => inR r c k = true) O F xs U L) (hO : ∀ p' q', O p' q' → O' p' q' ∨ (p' = p ∧ q' = q)) (hp : ¬ p ∈ U) (hF : F p = some L) (hq : inR r c q = true) (hA : Adj p q) (pile : IsPile klt xs) (n1 : xs.length < 1000) (n2 : es.length < 2000) (n3 : gs.length < 2000)
    (k : ∀ K' es' gs' xs' F' y4 y6 y7, FS H K' lf lo lp lh es' gs' xs' → Has es' F' → Fl (hgt g r c) D (fun k => inR r c k = true) O' F' xs' U L → F' p = some L → IsPile klt xs' → xs'.length ≤ xs.length + 1 → es'.length ≤ es.length + 1 → gs'.length ≤ gs.length + 1 → (∀ m, m ≠ lf → m ≠ lo → m ≠ lh → K'[m]? = K[m]?) → QS [some (.loc o), some (.loc lf), some (.loc lo), some (.loc lp), y4, some (ent L p), y6, y7] K') :
    wpSs T_07 (callF T_07 (d + 4)) (.cons (.assign 6 (.umeth (.var 0) 2 (.cons (.var 4) .nil))) (.cons (.ite (.cmp .isNot (.var 6) .none) (.cons (.assign 7 (.bf .max2 (.cons (.var 6) (.cons (.sub (.var 5) (.int 0)) .nil)))) (.cons (.ite (.or (.cmp .notin (.var 4) (.var 1)) (.cmp .lt (.var 7) (.sub (.var 1) (.var 4)))) (.cons (.setitem (.var 1) (.var 4) (.var 7)) (.cons (.setitem (.var 2) (.var 4) (.sub (.var 5) (.int 1))) (.cons (.expr (.umeth (.var 3) 6 (.cons (.tup (.cons (.var 7) (.cons (.var 4) .nil))) .nil))) .nil))) .nil) .nil)) .nil) .nil))
      [some (.loc o), some (.loc lf), some (.loc lo), some (.loc lp), some (valOf q), some (ent L p), x6, x7] K QS R NoX := by
  obtain ⟨i, j, rfl, hi, hj⟩ := inR_nat hq
  have LK := LA.ext x.ext
  obtain ⟨w, y, hw, hy, hcase⟩ := hgt_at og hi hj
  have st : wpE T_07 (callF T_07 (d + 4)) (.umeth (.var 0) 2 (.cons (.var 4) .nil)) [some (.loc o), some (.loc lf), some (.loc lo), some (.loc lp), some (valOf ((i : Int), (j : Int))), some (ent L p), x6, x7] K (fun v K' => v = y ∧ K' = K) NoE := by
    obtain ⟨fs, f0, _⟩ := LK.inst
    simp only [↓wp_umeth, ↓wp_var, ↓wp_cons, ↓wp_nil, ↓getV_s, ↓getV_zero]
    rw [wu_meth3 f0 (show T_07.meth 5 2 = some 22 from rfl)]
    exact l07_at hi hj LK hw hy
  refine wps_asg _ st ?_
  clear st LK LA
  rintro v K' ⟨rfl, rfl⟩
  rcases hcase with ⟨rfl, hn⟩ | ⟨a, rfl, _, ha⟩
  · exact k _ _ _ _ _ _ _ _ x hes (fl.skip hO hF (fun a ha => by rw [hn] at ha; cases ha)) hF pile (Nat.le_succ _) (Nat.le_succ _) (Nat.le_succ _) fun _ _ _ _ => rfl
  · refine wps_yes (fun K2 => K2 = K') ⟨rfl, rfl⟩ ?_
    rintro K2 rfl
    refine wps_asg (fun v K' => v = .int (mx a L) ∧ K' = K2) ⟨rfl, rfl⟩ ?_
    rintro v K' ⟨rfl, rfl⟩
    obtain ⟨t, ht, hf, hc⟩ := fl_cond (d := d) (i := i) (j := j) (a := mx a L) (x4 := some (.loc o)) (x5 := some (.loc lo)) (x6 := some (.loc lp)) (x7 := some (ent L p)) (x8 := some (.int a)) x hes
    rw [wps_cons, wps_ite]
    refine wpE_then hc ?_
    clear hc
    rintro v K2 ⟨rfl, rfl⟩
    rw [asBool_bool]
    refine brB_cases (fun h => ?_) (fun h => ?_)
    · have new := ht h
      refine fl_store x fl.dc pile n1 n2 n3 fun K3 ys x' hperm hpile keep => k _ _ _ _ _ _ _ _ x' (hes.put _ _) ((fl.put hO hp hF hq hA ha new).perm hperm) ?_ hpile ?_ (dput_len _ _ _) (dput_len _ _ _) keep
      · by_cases e : p = ((i : Int), (j : Int))
        · have := new L (by rw [← e]; exact hF)
          have := mx_r a L
          omega
        · rw [upd_ne _ _ e]; exact hF
      · rw [hperm.length_eq, List.length_append]; exact Nat.le_refl _
    · obtain ⟨f, h1, h2⟩ := hf h
      exact k _ _ _ _ _ _ _ _ x hes (fl.skip hO hF (fun a' ha' => by rw [ha] at ha'; cases ha'; exact ⟨f, h1, h2⟩)) hF pile (Nat.le_succ _) (Nat.le_succ _) (Nat.le_succ _) fun _ _ _ _ => rfl
end
end Mine.Pure

-- part L7L
namespace Mine.Pure
open PySem Pile
theorem Fl.imp {h : Key → Option Int} {D C : Key → Prop} {O O' : Key → Key → Prop} {F : Key → Option Int} {xs : List Val} {U : List Key} {m : Int} (x : Fl h D C O F xs U m) (hc : ∀ p q, O p q → O' p q) : Fl h D C O' F xs U m :=
  ⟨x.ents, x.nd, x.here, x.done, x.seen, x.drain, x.snd, fun p fp hf hp q hq ho a ha => x.near p fp hf hp q hq (fun c => ho (hc p q c)) a ha⟩
/- between two of the cells beside one -/
inductive EInv (H : Hp) (o lf lo lp lh : Nat) (A : (Key → Key → Prop) → (Key → Option Int) → List Val → Prop) (p : Key) (L : Int) (bs : List Key) (a1 a2 a3 m' : Nat) : Nat → Env' → Hp → Prop
  | mk {j : Nat} {K : Hp} (es gs : List (Key × Val)) (xs : List Val) (F : Key → Option Int) (y4 y6 y7 : Option Val) (x : FS H K lf lo lp lh es gs xs) (hes : Has es F) (fl : A (fun p' q' => p' = p ∧ ¬ q' ∈ bs.take j) F xs) (hF : F p = some L) (pile : IsPile klt xs) (b1 : xs.length ≤ a1 + j) (b2 : es.length ≤ a2 + j) (b3 : gs.length ≤ a3 + j) (gm : K[m']? = some (.list (bs.map valOf))) (hj : j ≤ 4) :
    EInv H o lf lo lp lh A p L bs a1 a2 a3 m' j [some (.loc o), some (.loc lf), some (.loc lo), some (.loc lp), y4, some (ent L p), y6, y7] K
/- between two turns of the flood -/
inductive WInv (H : Hp) (o lf lo lp lh : Nat) (A : (Key → Option Int) → List Val → List Key → Int → Prop) : Nat → Env' → Hp → Prop
  | mk {n : Nat} {K : Hp} (es gs : List (Key × Val)) (xs : List Val) (F : Key → Option Int) (U : List Key) (m : Int) (y4 y5 y6 y7 : Option Val) (x : FS H K lf lo lp lh es gs xs) (hes : Has es F) (fl : A F xs U m) (pile : IsPile klt xs) (hn : xs.length + 5 * U.length = n) (b1 : n < 990) (b2 : es.length + 4 * U.length < 1800) (b3 : gs.length + 4 * U.length < 1800) :
    WInv H o lf lo lp lh A n [some (.loc o), some (.loc lf), some (.loc lo), some (.loc lp), y4, y5, y6, y7] K
section
variable {H K : Hp} {d : Nat} {QS : Env' → Hp → Prop} {R : Val → Hp → Prop} {o r c lg b s ls lf lo lp lh : Nat} {g : List (List Val)} {es0 es gs : List (Key × Val)} {xs : List Val} {D : Key → Prop} {F : Key → Option Int} {U : List Key} {L m : Int} {x4 x5 x6 x7 : Option Val}
set_option maxHeartbeats 1000000 in
/- all cells beside one -/
theorem fl_each {p : Key} (og : OkG g r c) (LA : LandAt H o r c lg b s ls g es0) (x : FS H K lf lo lp lh es gs xs) (hes : Has es F) (fl : Fl (hgt g r c) D (fun k => inR r c k = true) (fun p' _ => p' = p) F xs U L) (hp : ¬ p ∈ U) (hF : F p = some L) (pile : IsPile klt xs) (n1 : xs.length < 990) (n2 : es.length < 1900) (n3 : gs.length < 1900)
    (q : ∀ K' es' gs' xs' F' y4 y6 y7, FS H K' lf lo lp lh es' gs' xs' → Has es' F' → Fl (hgt g r c) D (fun k => inR r c k = true) (fun _ _ => False) F' xs' U L → IsPile klt xs' → xs'.length ≤ xs.length + 4 → es'.length ≤ es.length + 4 → gs'.length ≤ gs.length + 4 → QS [some (.loc o), some (.loc lf), some (.loc lo), some (.loc lp), y4, some (ent L p), y6, y7] K') :
    wpS T_07 (callF T_07 (d + 4)) (.each 4 (.call 2 (.cons (.attr (.var 0) 0) (.cons (.attr (.var 0) 1) (.cons (.sub (.var 5) (.int 1)) .nil)))) (.cons (.assign 6 (.umeth (.var 0) 2 (.cons (.var 4) .nil))) (.cons (.ite (.cmp .isNot (.var 6) .none) (.cons (.assign 7 (.bf .max2 (.cons (.var 6) (.cons (.sub (.var 5) (.int 0)) .nil)))) (.cons (.ite (.or (.cmp .notin (.var 4) (.var 1)) (.cmp .lt (.var 7) (.sub (.var 1) (.var 4)))) (.cons (.setitem (.var 1) (.var 4) (.var 7)) (.cons (.setitem (.var 2) (.var 4) (.sub (.var 5) (.int 1))) (.cons (.expr (.umeth (.var 3) 6 (.cons (.tup (.cons (.var 7) (.cons (.var 4) .nil))) .nil))) .nil))) .nil) .nil)) .nil) .nil)))
      [some (.loc o), some (.loc lf), some (.loc lo), some (.loc lp), x4, some (ent L p), x6, x7] K QS R NoX := by
  obtain ⟨p1, p2⟩ := p
  have LK := LA.ext x.ext
  obtain ⟨fs, f0, f1, f2, _⟩ := LK.inst
  apply wps_each
  simp only [↓wp_callE, ↓wp_cons, ↓wp_attr, ↓wp_var, ↓getV_s, ↓getV_zero, ↓wp_sub, ↓wp_int, ↓wp_nil, ↓getV_succ]
  rw [wa_attr3 f0 f1, wa_attr3 f0 f2]
  show Wp (callF T_07 (d + 4) 2 [.int (r : Int), .int (c : Int), .tup [.int p1, .int p2]]) K _ _
  refine (l07_beside (d := d + 1)).then ?_
  rintro v K1 ⟨m', rfl, hm, e1, gm⟩
  rw [getO_of (iter_list gm)]
  have x1 := x.more e1
  have blen := bes_len r c p1 p2
  have lh' := x.lt
  have lf' := lt_of_get x.f
  have lo' := lt_of_get x.o
  obtain ⟨I, hI⟩ := hide3 (EInv H o lf lo lp lh (fun O F' xs' => Fl (hgt g r c) D (fun k => inR r c k = true) O F' xs' U L) (p1, p2) L (bes r c p1 p2) xs.length es.length gs.length m')
  show WpS (eachL (chk (some m') ((bes r c p1 p2).map valOf)) (bind1 4) _ ((bes r c p1 p2).map valOf) _ _) _ _ _
  refine wps_eachN I ((hI _ _ _).mpr (.mk es gs xs F x4 x6 x7 x1 hes (fl.imp (fun p q h => ⟨h, fun c => nomatch c⟩)) hF pile (Nat.le_refl _) (Nat.le_refl _) (Nat.le_refl _) gm (Nat.zero_le _))) ?_ ?_ ?_
  · clear x1 x hes fl
    intro Γ K' h
    obtain ⟨es', gs', xs', F', y4, y6, y7, x', hes', fl', _, pile', b1, b2, b3, _, hj⟩ := (hI _ _ _).mp h
    rw [List.length_map] at fl' b1 b2 b3
    refine q K' es' gs' xs' F' y4 y6 y7 x' hes' (fl'.close ?_) pile' (by omega) (by omega) (by omega)
    rintro p q a ⟨rfl, hn⟩ hA ha
    rw [List.take_length] at hn
    exact hn (mem_bes.mpr ⟨hA, hgt_in ha⟩)
  · intro j Γ K' _ h
    obtain ⟨es', gs', xs', F', y4, y6, y7, _, _, _, _, _, _, _, _, gm', _⟩ := (hI _ _ _).mp h
    exact chk_list gm'
  · clear x1 x hes fl hF pile q
    intro j z Γ K' hz h
    obtain ⟨es', gs', xs', F', y4, y6, y7, x', hes', fl', hF', pile', b1, b2, b3, gm', hj⟩ := (hI _ _ _).mp h
    obtain ⟨q, hq, rfl⟩ := map_get hz
    obtain ⟨hA, hin⟩ := mem_bes.mp (List.mem_of_getElem? hq)
    have lj := (List.getElem?_eq_some_iff.mp hq).1
    refine ⟨_, rfl, fl_in og LA x' hes' fl' (O' := fun p' q' => p' = (p1, p2) ∧ ¬ q' ∈ (bes r c p1 p2).take (j + 1)) (p := (p1, p2)) (q := q) ?_ hp hF' hin hA pile' (by omega) (by omega) (by omega) ?_⟩
    · rintro p' q' ⟨rfl, hn⟩
      by_cases e : q' = q
      · exact .inr ⟨rfl, e⟩
      · exact .inl ⟨rfl, fun h => ((mem_take_succ hq).mp h).elim hn e⟩
    · intro K2 es2 gs2 xs2 F2 z4 z6 z7 x2 hes2 fl2 hF2 pile2 c1 c2 c3 keep
      exact (hI _ _ _).mpr (.mk es2 gs2 xs2 F2 z4 z6 z7 x2 hes2 fl2 hF2 pile2 (Nat.le_trans c1 (Nat.succ_le_succ b1)) (Nat.le_trans c2 (Nat.succ_le_succ b2)) (Nat.le_trans c3 (Nat.succ_le_succ b3)) ((keep m' (Nat.ne_of_gt (Nat.lt_of_lt_of_le lf' hm)) (Nat.ne_of_gt (Nat.lt_of_lt_of_le lo' hm)) (Nat.ne_of_gt (Nat.lt_of_lt_of_le lh' hm))).trans gm') (Nat.le_trans lj blen))
theorem cons_head {m : Val} {t xs : List Val} (e : xs = m :: t) (p : IsPile klt xs) : ∀ y ∈ t, klt y m = false := fun y hy => by
  subst e
  obtain ⟨n, hn⟩ := List.mem_iff_getElem?.mp hy
  exact p.least klt_ord (m := m) rfl (n + 1) y hn
set_option maxHeartbeats 1000000 in
theorem fl_loop (og : OkG g r c) (LA : LandAt H o r c lg b s ls g es0) (x : FS H K lf lo lp lh es gs xs) (hes : Has es F) (fl : Fl (hgt g r c) D (fun k => inR r c k = true) (fun _ _ => False) F xs U m) (pile : IsPile klt xs) (n1 : xs.length + 5 * U.length < 990) (n2 : es.length + 4 * U.length < 1800) (n3 : gs.length + 4 * U.length < 1800)
    (q : ∀ K' es' gs' F' y4 y5 y6 y7, FS H K' lf lo lp lh es' gs' [] → Has es' F' → Lv (hgt g r c) D F' → QS [some (.loc o), some (.loc lf), some (.loc lo), some (.loc lp), y4, y5, y6, y7] K') :
    wpS T_07 (callF T_07 (d + 4)) (.loop (.cmp .gt (.umeth (.var 3) 10 .nil) (.int 0)) (.cons (.assign 5 (.umeth (.var 3) 8 .nil)) (.cons (.ite (.cmp .eq (.sub (.var 1) (.sub (.var 5) (.int 1))) (.sub (.var 5) (.int 0))) (.cons (.each 4 (.call 2 (.cons (.attr (.var 0) 0) (.cons (.attr (.var 0) 1) (.cons (.sub (.var 5) (.int 1)) .nil)))) (.cons (.assign 6 (.umeth (.var 0) 2 (.cons (.var 4) .nil))) (.cons (.ite (.cmp .isNot (.var 6) .none) (.cons (.assign 7 (.bf .max2 (.cons (.var 6) (.cons (.sub (.var 5) (.int 0)) .nil)))) (.cons (.ite (.or (.cmp .notin (.var 4) (.var 1)) (.cmp .lt (.var 7) (.sub (.var 1) (.var 4)))) (.cons (.setitem (.var 1) (.var 4) (.var 7)) (.cons (.setitem (.var 2) (.var 4) (.sub (.var 5) (.int 1))) (.cons (.expr (.umeth (.var 3) 6 (.cons (.tup (.cons (.var 7) (.cons (.var 4) .nil))) .nil))) .nil))) .nil) .nil)) .nil) .nil))) .nil) .nil) .nil)))
      [some (.loc o), some (.loc lf), some (.loc lo), some (.loc lp), x4, x5, x6, x7] K QS R NoX := by
  obtain ⟨I, hI⟩ := hide3 (WInv H o lf lo lp lh (fun F' xs' U' m' => Fl (hgt g r c) D (fun k => inR r c k = true) (fun _ _ => False) F' xs' U' m'))
  refine wps_loop I (n := xs.length + 5 * U.length) (by show _ < 2 ^ 40; omega) ((hI _ _ _).mpr (.mk es gs xs F U m x4 x5 x6 x7 x hes fl pile rfl n1 n2 n3)) ?_
  clear x hes fl pile n1 n2 n3
  intro n Γ K' h
  obtain ⟨es', gs', xs', F', U', m', y4, y5, y6, y7, x', hes', fl', pile', hn, b1, b2, b3⟩ := (hI _ _ _).mp h
  rw [wp_cmp]
  simp only [↓wp_umeth, ↓wp_var, ↓getV_s, ↓getV_zero, ↓wp_nil, ↓wp_int]
  rw [wu_meth x'.p (show T_07.meth 6 10 = some 31 from rfl)]
  refine (l07_many (d + 3) x'.p x'.h).then ?_
  rintro v K2 ⟨e, rfl⟩
  rw [e, go_gt, asBool_bool]
  clear e
  refine brB_split ?_ ?_
  · intro hpos
    refine wps_asg (fun v K2 => ∃ t ys, xs' = v :: t ∧ FS H K2 lf lo lp lh es' gs' ys ∧ ys.Perm t ∧ IsPile klt ys) ?_ ?_
    · simp only [↓wp_umeth, ↓wp_var, ↓getV_s, ↓getV_zero, ↓wp_nil, ↓wp_int]
      rw [wu_meth x'.p (show T_07.meth 6 8 = some 29 from rfl)]
      refine (l07_take (d + 2) dom_cell (ne_of_get x'.p x'.h (by intro c; cases c)) x'.p x'.h fl'.dc pile' (by omega) (fun c => by rw [c] at hpos; exact absurd hpos (by decide))).then ?_
      rintro v K2 ⟨t, ys, e, on, hy, hp, hpile⟩
      exact ⟨t, ys, e, x'.only on hy, hp, hpile⟩
    clear x'
    rintro v K2 ⟨t, ys, rfl, x2, hperm, hpile⟩
    obtain ⟨L, ⟨p1, p2⟩, rfl, _, f, hf, _⟩ := fl'.ents v (.head _)
    have hk := hes' (p1, p2)
    rw [hf] at hk
    have lt : (ent L (p1, p2) :: t).length = t.length + 1 := rfl
    have ly := hperm.length_eq
    have cond : wpE T_07 (callF T_07 (d + 4)) (.cmp .eq (.sub (.var 1) (.sub (.var 5) (.int 1))) (.sub (.var 5) (.int 0))) [some (.loc o), some (.loc lf), some (.loc lo), some (.loc lp), y4, some (.tup [.int L, .tup [.int p1, .int p2]]), y6, y7] K2 (fun v K3 => v = .bool (decide (f = L)) ∧ K3 = K2) NoE := by
      simp only [↓wp_cmp, ↓wp_sub, ↓wp_var, ↓getV_s, ↓getV_zero, ↓getV_succ, ↓wp_int, ↓ws_tup1, ↓ws_tup0]
      rw [ws_dict x2.f hk, go_eq]
      exact ⟨rfl, rfl⟩
    rw [wps_cons, wps_ite]
    refine wpE_then cond ?_
    clear cond hk
    rintro v K3 ⟨rfl, rfl⟩
    rw [asBool_bool]
    refine brB_split ?_ ?_
    · rintro rfl
      obtain ⟨hU, fp⟩ := fl'.pop (cons_head rfl pile') hf
      have fu := filter_lt hU
      rw [wps_cons]
      refine fl_each (p := (p1, p2)) og LA x2 hes' (fp.perm hperm) (fun c => ?_) hf hpile (by omega) (by omega) (by omega) ?_
      · have := (List.mem_filter.mp c).2
        simp at this
      · intro K3 es3 gs3 xs3 F3 z4 z6 z7 x3 hes3 fl3 pile3 c1 c2 c3
        exact ⟨_, by omega, (hI _ _ _).mpr (.mk es3 gs3 xs3 F3 _ _ z4 _ z6 z7 x3 hes3 fl3 pile3 rfl (by omega) (by omega) (by omega))⟩
    · intro hne
      exact ⟨_, by omega, (hI _ _ _).mpr (.mk es' gs' ys F' U' m' y4 _ y6 y7 x2 hes' ((fl'.stale (fun c => hne (by rw [hf] at c; cases c; rfl))).perm hperm) hpile rfl (by omega) (by omega) (by omega))⟩
  · intro hz
    have : xs' = [] := List.length_eq_zero_iff.mp (by omega)
    subst this
    exact q K' es' gs' F' y4 y5 y6 y7 x' hes' fl'.fin
end
end Mine.Pure

-- part L7M
namespace Mine.Pure
open PySem Pile
theorem Fl.drainsAre {h : Key → Option Int} {D D' C : Key → Prop} {O : Key → Key → Prop} {F : Key → Option Int} {xs : List Val} {U : List Key} {m : Int} (x : Fl h D C O F xs U m) (hc : ∀ k, D k ↔ D' k) : Fl h D' C O F xs U m := by
  have : D = D' := funext fun k => propext (hc k)
  rw [← this]; exact x
/- between two drains -/
inductive NInv (H : Hp) (o lf lo lp lh : Nat) (A : (Key → Prop) → (Key → Option Int) → List Val → Prop) (ds : List Val) (m' : Nat) : Nat → Env' → Hp → Prop
  | mk {n : Nat} {K : Hp} (es gs : List (Key × Val)) (xs : List Val) (F : Key → Option Int) (y4 : Option Val) (x : FS H K lf lo lp lh es gs xs) (hes : Has es F) (fl : A (fun k => valOf k ∈ ds.take n) F xs) (pile : IsPile klt xs) (only : ∀ k f, F k = some f → valOf k ∈ ds.take n) (b1 : xs.length ≤ n) (b2 : es.length ≤ n) (b3 : gs.length ≤ n) (gm : K[m']? = some (.list ds)) :
    NInv H o lf lo lp lh A ds m' n [some (.loc o), some (.loc lf), some (.loc lo), some (.loc lp), y4, none, none, none] K
section
variable {H K : Hp} {d : Nat} {QS : Env' → Hp → Prop} {R : Val → Hp → Prop} {o r c lg b s ls lf lo lp lh : Nat} {g : List (List Val)} {es0 es gs : List (Key × Val)} {xs : List Val} {D : Key → Prop} {F : Key → Option Int} {U : List Key} {L m : Int} {x4 x5 x6 x7 : Option Val}
/- one drain -/
theorem fl_new {i j : Nat} {a : Int} {w : List Val} (LA : LandAt K o r c lg b s ls g es0) (x : FS H K lf lo lp lh es gs xs) (hi : i < r) (hj : j < c) (hw : g[i]? = some w) (hy : w[j]? = some (.int a)) (dc : ∀ y ∈ xs, DC y) (pile : IsPile klt xs) (n1 : xs.length < 1000) (n2 : es.length < 2000) (n3 : gs.length < 2000)
    (q : ∀ K' ys, FS H K' lf lo lp lh (dput es ((i : Int), (j : Int)) (.int a)) (dput gs ((i : Int), (j : Int)) .none) ys → ys.Perm (xs ++ [ent a ((i : Int), (j : Int))]) → IsPile klt ys → (∀ m, m ≠ lf → m ≠ lo → m ≠ lh → K'[m]? = K[m]?) → QS [some (.loc o), some (.loc lf), some (.loc lo), some (.loc lp), some (valOf ((i : Int), (j : Int))), none, none, none] K') :
    wpSs T_07 (callF T_07 (d + 4)) (.cons (.setitem (.var 1) (.var 4) (.umeth (.var 0) 2 (.cons (.var 4) .nil))) (.cons (.setitem (.var 2) (.var 4) .none) (.cons (.expr (.umeth (.var 3) 6 (.cons (.tup (.cons (.sub (.var 1) (.var 4)) (.cons (.var 4) .nil))) .nil))) .nil))) [some (.loc o), some (.loc lf), some (.loc lo), some (.loc lp), some (valOf ((i : Int), (j : Int))), none, none, none] K QS R NoX := by
  have hlid : lid = 16777216 := rfl
  obtain ⟨fs, f0, _⟩ := LA.inst
  have x2 := x.setF (dput es ((i : Int), (j : Int)) (.int a))
  have x3 := x2.setO (dput gs ((i : Int), (j : Int)) .none)
  have gt : dget (dput es ((i : Int), (j : Int)) (.int a)) ((i : Int), (j : Int)) = some (.int a) := by rw [dget_put, if_pos rfl]
  simp only [↓wps_cons, ↓wps_setitem, ↓wps_expr, ↓wps_nil, ↓wp_var, ↓wp_sub, ↓wp_int, ↓wp_none, ↓wp_umeth, ↓wp_cons, ↓wp_nil, ↓wp_tup, ↓getV_s, ↓getV_zero]
  rw [wu_meth3 f0 (show T_07.meth 5 2 = some 22 from rfl)]
  refine (l07_at hi hj LA hw hy).then ?_
  rintro v K2 ⟨rfl, rfl⟩
  show Wp (setitemV (.loc lf) (.tup [.int (i : Int), .int (j : Int)]) (.int a)) _ _ _
  rw [wa_dict x.f (by omega)]
  show Wp (setitemV (.loc lo) (.tup [.int (i : Int), .int (j : Int)]) .none) _ _ _
  rw [wa_dict x2.o (by omega), wu_meth x3.p (show T_07.meth 6 6 = some 27 from rfl)]
  show Wp (subV (.loc lf) (.tup [.int (i : Int), .int (j : Int)])) _ _ _
  rw [ws_dict x3.f gt]
  refine (l07_put (d + 3) dom_cell x3.p x3.h dc (ent_dc a ((i : Int), (j : Int))) pile n1).then ?_
  rintro w K' ⟨_, ys, rfl, hp, hpile⟩
  refine q _ ys (x3.setH ys) hp hpile fun m h1 h2 h3 => ?_
  rw [List.getElem?_set_ne (Ne.symm h3), List.getElem?_set_ne (Ne.symm h2), List.getElem?_set_ne (Ne.symm h1)]
/- the drains are found -/
theorem fl_first (og : OkG g r c) (hr : r ≤ 30) (hc : c ≤ 30) (LA : LandAt H o r c lg b s ls g es0) (hd : ∀ k, valOf k ∈ (cells r c).filter (inD es0) → ∃ a, hgt g r c k = some a) (x : FS H K lf lo lp lh [] [] [])
    (q : ∀ K' es' gs' xs' F' y4, FS H K' lf lo lp lh es' gs' xs' → Has es' F' → Fl (hgt g r c) (fun k => valOf k ∈ (cells r c).filter (inD es0)) (fun k => inR r c k = true) (fun _ _ => False) F' xs' (keys r c) 0 → IsPile klt xs' → xs'.length ≤ r * c → es'.length ≤ r * c → gs'.length ≤ r * c → QS [some (.loc o), some (.loc lf), some (.loc lo), some (.loc lp), y4, none, none, none] K') :
    wpS T_07 (callF T_07 (d + 4)) (.each 4 (.umeth (.var 0) 4 .nil) (.cons (.setitem (.var 1) (.var 4) (.umeth (.var 0) 2 (.cons (.var 4) .nil))) (.cons (.setitem (.var 2) (.var 4) .none) (.cons (.expr (.umeth (.var 3) 6 (.cons (.tup (.cons (.sub (.var 1) (.var 4)) (.cons (.var 4) .nil))) .nil))) .nil))))
      [some (.loc o), some (.loc lf), some (.loc lo), some (.loc lp), none, none, none, none] K QS R NoX := by
  have hrc := Nat.mul_le_mul hr hc
  have LK := LA.ext x.ext
  obtain ⟨fs, f0, _⟩ := LK.inst
  apply wps_each
  simp only [↓wp_umeth, ↓wp_var, ↓getV_s, ↓getV_zero, ↓wp_nil]
  rw [wu_meth3 f0 (show T_07.meth 5 4 = some 24 from rfl)]
  refine (l07_drains (d := d + 2) hr hc LK).then ?_
  clear LK f0
  rintro v K1 ⟨m', rfl, hm', e1, gm⟩
  rw [getO_of (iter_list gm)]
  have nd : ((cells r c).filter (inD es0)).Nodup := (cells_nodup r c).sublist List.filter_sublist
  have hsub : ∀ x ∈ (cells r c).filter (inD es0), ∃ i j : Nat, x = valOf ((i : Int), (j : Int)) ∧ i < r ∧ j < c := fun x hx => cell_mem (List.mem_filter.mp hx).1
  have dl : ((cells r c).filter (inD es0)).length ≤ r * c := by rw [← cells_len r c]; exact List.length_filter_le _ _
  generalize (cells r c).filter (inD es0) = ds at *
  have x1 := x.more e1
  have lh' := x.lt
  have lf' := lt_of_get x.f
  have lo' := lt_of_get x.o
  show WpS (eachL (chk (some m') ds) (bind1 4) _ ds _ _) _ _ _
  obtain ⟨I, hI⟩ := hide3 (NInv H o lf lo lp lh (fun D F' xs' => Fl (hgt g r c) D (fun k => inR r c k = true) (fun _ _ => False) F' xs' (keys r c) 0) ds m')
  refine wps_eachN I ((hI _ _ _).mpr (.mk [] [] [] (fun _ => none) none x1 (fun k => rfl) ((Fl.start (fun k hk => mem_keys.mpr hk)).drainsAre (fun k => ⟨fun h => h.elim, fun h => nomatch h⟩)) (fun i hi x y hx => nomatch hx) (fun k f h => nomatch h) (Nat.le_refl _) (Nat.le_refl _) (Nat.le_refl _) gm)) ?_ ?_ ?_
  · clear x x1 LA hd hsub nd gm
    intro Γ K' h
    obtain ⟨es', gs', xs', F', y4, x', hes', fl', pile', _, b1, b2, b3, _⟩ := (hI _ _ _).mp h
    rw [List.take_length] at fl'
    exact q K' es' gs' xs' F' y4 x' hes' fl' pile' (Nat.le_trans b1 dl) (Nat.le_trans b2 dl) (Nat.le_trans b3 dl)
  · intro j Γ K' _ h
    obtain ⟨es', gs', xs', F', y4, _, _, _, _, _, _, _, _, gm'⟩ := (hI _ _ _).mp h
    exact chk_list gm'
  · clear x x1 q gm e1
    intro n z Γ K' hz h
    obtain ⟨es', gs', xs', F', y4, x', hes', fl', pile', only, b1, b2, b3, gm'⟩ := (hI _ _ _).mp h
    have ln := (List.getElem?_eq_some_iff.mp hz).1
    obtain ⟨i, j, rfl, hi, hj⟩ := hsub z (List.mem_of_getElem? hz)
    obtain ⟨w, y, hw, hy, hcase⟩ := hgt_at og hi hj
    obtain ⟨a, ha⟩ := hd _ (List.mem_of_getElem? hz)
    rcases hcase with ⟨_, hn⟩ | ⟨a', rfl, ha0, ha'⟩
    · rw [hn] at ha; cases ha
    have nF : F' ((i : Int), (j : Int)) = none := by
      cases hf : F' ((i : Int), (j : Int)) with
      | none => rfl
      | some f => exact absurd (only _ f hf) (not_take nd hz)
    have all : ∀ k, ¬ k ∈ keys r c → F' k = none := fun k hk => by
      cases hf : F' k with
      | none => rfl
      | some f =>
        obtain ⟨i', j', e', hi', hj'⟩ := hsub _ (List.mem_of_mem_take (only k f hf))
        exact absurd (mem_keys.mpr (by rw [valOf_inj e']; exact inR_of hi' hj')) hk
    refine ⟨_, rfl, fl_new (LA.ext x'.ext) x' hi hj hw hy fl'.dc pile' (by omega) (by omega) (by omega) ?_⟩
    intro K2 ys x3 hp hpile keep
    have fl2 := fl'.opened all nF ha' ha0 (mem_keys.mpr (inR_of hi hj))
    refine (hI _ _ _).mpr (.mk _ _ ys _ _ x3 (hes'.put _ _) ((fl2.perm hp).drainsAre (fun k => ?_)) hpile (fun k f hf => ?_) ?_ (Nat.le_trans (dput_len _ _ _) (Nat.succ_le_succ b2)) (Nat.le_trans (dput_len _ _ _) (Nat.succ_le_succ b3)) ((keep m' (Nat.ne_of_gt (Nat.lt_of_lt_of_le lf' hm')) (Nat.ne_of_gt (Nat.lt_of_lt_of_le lo' hm')) (Nat.ne_of_gt (Nat.lt_of_lt_of_le lh' hm'))).trans gm'))
    · rw [mem_take_succ hz]
      exact or_congr Iff.rfl ⟨fun h => congrArg valOf h, fun h => valOf_inj h⟩
    · rw [mem_take_succ hz]
      by_cases e : k = ((i : Int), (j : Int))
      · exact .inr (congrArg valOf e)
      · rw [upd_ne _ _ e] at hf
        exact .inl (only k f hf)
    · rw [hp.length_eq, List.length_append]; exact Nat.succ_le_succ b1
end
end Mine.Pure

-- part L7N
namespace Mine.Pure
open PySem Pile
section
variable {H : Hp} {d : Nat} {o r c lg b s ls : Nat} {g : List (List Val)} {es0 : List (Key × Val)}
theorem l07_flood (og : OkG g r c) (hr : r ≤ 30) (hc : c ≤ 30) (hrc : r * c ≤ 132) (LA : LandAt H o r c lg b s ls g es0) (hd : ∀ k, valOf k ∈ (cells r c).filter (inD es0) → ∃ a, hgt g r c k = some a) :
    Wp (callF T_07 (d + 5) 6 [.loc o]) H (fun v H' => ∃ lf lo es F, v = .tup [.loc lf, .loc lo] ∧ Ext H H' ∧ H'[lf]? = some (.dict es) ∧ Has es F ∧ Lv (hgt g r c) (fun k => valOf k ∈ (cells r c).filter (inD es0)) F) NoE := by
  rw [wp_call (g := f6_07) rfl rfl, f6_07]
  refine wps_asg (fun v K => v = .loc H.length ∧ K = H ++ [.dict []]) (by simp only [↓wp_none, ↓wp_bool, ↓wp_int, ↓wp_glob, ↓wp_var, ↓wp_bin, ↓wp_not, ↓wp_and, ↓wp_or, ↓wp_cmp, ↓wp_cmp2, ↓wp_sub, ↓wp_oNone, ↓wp_oSome, ↓wp_tup, ↓wp_list, ↓wp_dict, ↓wp_callE, ↓wp_bf, ↓wp_bm, ↓wp_isinst, ↓wp_nil, ↓wp_cons, ↓wp_attr, ↓wp_umeth, ↓wp_new, ↓wps_nil, ↓wps_cons, ↓wps_expr, ↓wps_assign, ↓wps_ret, ↓wps_ite, ↓wps_raise, ↓wps_setattr, ↓wps_setitem, ↓wv_add, ↓wv_sub, ↓wv_mul, ↓wv_fdiv, ↓wv_mod, ↓wv_range, ↓wv_len_script, ↓wv_len_tup, ↓wv_max2, ↓go_eq, ↓go_ne, ↓go_neB, ↓go_isNotB, ↓go_isB, ↓go_lt, ↓go_gt, ↓go_le, ↓go_isNone_none, ↓go_isNone_int, ↓go_isNotNone_none, ↓go_isNotNone_int, ↓wi_int_int, ↓wi_int_bool, ↓wi_int_tup, ↓wi_int_list, ↓wi_bool_int, ↓wi_bool_bool, ↓wi_bool_tup, ↓wi_none_tup, ↓wi_none_int, ↓wi_str_tup, ↓wi_str_int, ↓wi_tup_tup, ↓wi_tup_int, ↓ws_tup0, ↓ws_tup1, ↓ws_tup2, ↓getV_zero, ↓getV_s, ↓getV_n, ↓getV_succ, ↓asBool_bool, ↓getO_some, ↓brB_true, ↓brB_false, ↓brB_not, ↓wp_ret, List.map_cons, List.map_nil, List.cons_append, List.nil_append, List.set_cons_zero, List.set_cons_succ, List.replicate_succ, List.replicate_zero, Bool.not_true, Bool.not_false, and_true, true_and, and_self]) ?_
  rintro v K ⟨rfl, e⟩
  rw [e]; clear e K
  refine wps_asg (fun v K => v = .loc (H.length + 1) ∧ K = H ++ [.dict []] ++ [.dict []]) (by simp only [↓wp_none, ↓wp_bool, ↓wp_int, ↓wp_glob, ↓wp_var, ↓wp_bin, ↓wp_not, ↓wp_and, ↓wp_or, ↓wp_cmp, ↓wp_cmp2, ↓wp_sub, ↓wp_oNone, ↓wp_oSome, ↓wp_tup, ↓wp_list, ↓wp_dict, ↓wp_callE, ↓wp_bf, ↓wp_bm, ↓wp_isinst, ↓wp_nil, ↓wp_cons, ↓wp_attr, ↓wp_umeth, ↓wp_new, ↓wps_nil, ↓wps_cons, ↓wps_expr, ↓wps_assign, ↓wps_ret, ↓wps_ite, ↓wps_raise, ↓wps_setattr, ↓wps_setitem, ↓wv_add, ↓wv_sub, ↓wv_mul, ↓wv_fdiv, ↓wv_mod, ↓wv_range, ↓wv_len_script, ↓wv_len_tup, ↓wv_max2, ↓go_eq, ↓go_ne, ↓go_neB, ↓go_isNotB, ↓go_isB, ↓go_lt, ↓go_gt, ↓go_le, ↓go_isNone_none, ↓go_isNone_int, ↓go_isNotNone_none, ↓go_isNotNone_int, ↓wi_int_int, ↓wi_int_bool, ↓wi_int_tup, ↓wi_int_list, ↓wi_bool_int, ↓wi_bool_bool, ↓wi_bool_tup, ↓wi_none_tup, ↓wi_none_int, ↓wi_str_tup, ↓wi_str_int, ↓wi_tup_tup, ↓wi_tup_int, ↓ws_tup0, ↓ws_tup1, ↓ws_tup2, ↓getV_zero, ↓getV_s, ↓getV_n, ↓getV_succ, ↓asBool_bool, ↓getO_some, ↓brB_true, ↓brB_false, ↓brB_not, ↓wp_ret, List.map_cons, List.map_nil, List.cons_append, List.nil_append, List.set_cons_zero, List.set_cons_succ, List.replicate_succ, List.replicate_zero, Bool.not_true, Bool.not_false, and_true, true_and, and_self, List.length_append, List.length_singleton]) ?_
  rintro v K ⟨rfl, e⟩
  rw [e]; clear e K
  refine wps_asg (fun v K => v = .loc (H.length + 2) ∧ FS H K H.length (H.length + 1) (H.length + 2) (H.length + 3) [] [] []) ?_ ?_
  · simp only [↓wp_none, ↓wp_bool, ↓wp_int, ↓wp_glob, ↓wp_var, ↓wp_bin, ↓wp_not, ↓wp_and, ↓wp_or, ↓wp_cmp, ↓wp_cmp2, ↓wp_sub, ↓wp_oNone, ↓wp_oSome, ↓wp_tup, ↓wp_list, ↓wp_dict, ↓wp_callE, ↓wp_bf, ↓wp_bm, ↓wp_isinst, ↓wp_nil, ↓wp_cons, ↓wp_attr, ↓wp_umeth, ↓wp_new, ↓wps_nil, ↓wps_cons, ↓wps_expr, ↓wps_assign, ↓wps_ret, ↓wps_ite, ↓wps_raise, ↓wps_setattr, ↓wps_setitem, ↓wv_add, ↓wv_sub, ↓wv_mul, ↓wv_fdiv, ↓wv_mod, ↓wv_range, ↓wv_len_script, ↓wv_len_tup, ↓wv_max2, ↓go_eq, ↓go_ne, ↓go_neB, ↓go_isNotB, ↓go_isB, ↓go_lt, ↓go_gt, ↓go_le, ↓go_isNone_none, ↓go_isNone_int, ↓go_isNotNone_none, ↓go_isNotNone_int, ↓wi_int_int, ↓wi_int_bool, ↓wi_int_tup, ↓wi_int_list, ↓wi_bool_int, ↓wi_bool_bool, ↓wi_bool_tup, ↓wi_none_tup, ↓wi_none_int, ↓wi_str_tup, ↓wi_str_int, ↓wi_tup_tup, ↓wi_tup_int, ↓ws_tup0, ↓ws_tup1, ↓ws_tup2, ↓getV_zero, ↓getV_s, ↓getV_n, ↓getV_succ, ↓asBool_bool, ↓getO_some, ↓brB_true, ↓brB_false, ↓brB_not, ↓wp_ret, List.map_cons, List.map_nil, List.cons_append, List.nil_append, List.set_cons_zero, List.set_cons_succ, List.replicate_succ, List.replicate_zero, Bool.not_true, Bool.not_false, and_true, true_and, and_self]
    rw [getO_of (show T_07.meth 6 0 = some 26 from rfl)]
    refine l07_new (d + 3) _ ?_
    have ll : (H ++ [HObj.dict []] ++ [HObj.dict []]).length = H.length + 2 := by simp
    rw [ll]
    have e0 : Ext H (H ++ [HObj.dict []]) := ⟨_, rfl⟩
    have e1 : Ext (H ++ [HObj.dict []]) (H ++ [HObj.dict []] ++ [HObj.dict []]) := ⟨_, rfl⟩
    have e2 : Ext (H ++ [HObj.dict []] ++ [HObj.dict []]) (H ++ [HObj.dict []] ++ [HObj.dict []] ++ [HObj.inst 6 [(4, .loc (H.length + 2 + 1))], HObj.list []]) := ⟨_, rfl⟩
    refine ⟨rfl, (e0.trans e1).trans e2, Nat.le_refl _, by omega, by omega, by omega, e2.get (e1.get (get_new H _)), e2.get ?_, ?_, ?_⟩
    · have := get_new (H ++ [HObj.dict []]) (.dict [])
      rw [List.length_append] at this
      exact this
    · rw [List.getElem?_append_right (by omega), ll, Nat.sub_self]; rfl
    · rw [List.getElem?_append_right (by omega), ll, show H.length + 3 - (H.length + 2) = 1 by omega]; rfl
  rintro v K ⟨rfl, x⟩
  refine wps_seq (QS := fun Γ K' => _) _ (fl_first og hr hc LA hd x (fun K' es' gs' xs' F' y4 x' hes' fl' pile' b1 b2 b3 => ?_)) (fun Γ K h => h)
  have kl := keys_len r c
  refine wps_seq (QS := fun Γ K' => _) _ (fl_loop og LA x' hes' fl' pile' (by omega) (by omega) (by omega) (fun K2 es2 gs2 F2 z4 z5 z6 z7 x2 hes2 lv => ?_)) (fun Γ K h => h)
  simp only [↓wp_none, ↓wp_bool, ↓wp_int, ↓wp_glob, ↓wp_var, ↓wp_bin, ↓wp_not, ↓wp_and, ↓wp_or, ↓wp_cmp, ↓wp_cmp2, ↓wp_sub, ↓wp_oNone, ↓wp_oSome, ↓wp_tup, ↓wp_list, ↓wp_dict, ↓wp_callE, ↓wp_bf, ↓wp_bm, ↓wp_isinst, ↓wp_nil, ↓wp_cons, ↓wp_attr, ↓wp_umeth, ↓wp_new, ↓wps_nil, ↓wps_cons, ↓wps_expr, ↓wps_assign, ↓wps_ret, ↓wps_ite, ↓wps_raise, ↓wps_setattr, ↓wps_setitem, ↓wv_add, ↓wv_sub, ↓wv_mul, ↓wv_fdiv, ↓wv_mod, ↓wv_range, ↓wv_len_script, ↓wv_len_tup, ↓wv_max2, ↓go_eq, ↓go_ne, ↓go_neB, ↓go_isNotB, ↓go_isB, ↓go_lt, ↓go_gt, ↓go_le, ↓go_isNone_none, ↓go_isNone_int, ↓go_isNotNone_none, ↓go_isNotNone_int, ↓wi_int_int, ↓wi_int_bool, ↓wi_int_tup, ↓wi_int_list, ↓wi_bool_int, ↓wi_bool_bool, ↓wi_bool_tup, ↓wi_none_tup, ↓wi_none_int, ↓wi_str_tup, ↓wi_str_int, ↓wi_tup_tup, ↓wi_tup_int, ↓ws_tup0, ↓ws_tup1, ↓ws_tup2, ↓getV_zero, ↓getV_s, ↓getV_n, ↓getV_succ, ↓asBool_bool, ↓getO_some, ↓brB_true, ↓brB_false, ↓brB_not, ↓wp_ret, List.map_cons, List.map_nil, List.cons_append, List.nil_append, List.set_cons_zero, List.set_cons_succ, List.replicate_succ, List.replicate_zero, Bool.not_true, Bool.not_false, and_true, true_and, and_self]
  exact ⟨_, _, es2, F2, rfl, x2.ext, x2.f, hes2, lv⟩
noncomputable def ov : Option Int → Val
  | some i => .int i
  | none => .none
/- the levels, as a table -/
noncomputable def table (F : Key → Option Int) (r c : Nat) : List (List Val) := (List.range r).map fun (i : Nat) => (List.range c).map fun (j : Nat) => ov (F ((i : Int), (j : Int)))
theorem table_row {F : Key → Option Int} {r c i : Nat} (hi : i < r) : (table F r c)[i]? = some ((List.range c).map fun (j : Nat) => ov (F ((i : Int), (j : Int)))) := by
  unfold table; rw [List.getElem?_map, List.getElem?_range hi]; rfl
theorem row_at {f : Nat → Val} {c j : Nat} (hj : j < c) : ((List.range c).map f)[j]? = some (f j) := by
  rw [List.getElem?_map, List.getElem?_range hj]; rfl
theorem table_len (F : Key → Option Int) (r c : Nat) : (table F r c).length = r := by unfold table; rw [List.length_map, List.length_range]
theorem eq_of_get {α : Type} {l l' : List α} (hl : l.length = l'.length) (h : ∀ (k : Nat) (v : α), l[k]? = some v → l'[k]? = some v) : l = l' := by
  refine List.ext_getElem? fun i => ?_
  cases e : l[i]? with
  | some v => rw [h i v e]
  | none =>
    rw [List.getElem?_eq_none_iff] at e
    rw [List.getElem?_eq_none (by omega)]
theorem l07_levels (og : OkG g r c) (hr : r ≤ 30) (hc : c ≤ 30) (hrc : r * c ≤ 132) (LA : LandAt H o r c lg b s ls g es0) (hd : ∀ k, valOf k ∈ (cells r c).filter (inD es0) → ∃ a, hgt g r c k = some a) :
    Wp (callF T_07 (d + 6) 7 [.loc o]) H (fun v H' => ∃ m b' F, v = .loc m ∧ Ext H H' ∧ H.length ≤ b' ∧ H.length ≤ m ∧ m = b' + r ∧ GAt H' m b' 1 (table F r c) ∧ Lv (hgt g r c) (fun k => valOf k ∈ (cells r c).filter (inD es0)) F) NoE := by
  have hlid : lid = 16777216 := rfl
  rw [wp_call (g := f7_07) rfl rfl, f7_07]
  refine wps_asg (fun v K => ∃ lf es F, v = .loc lf ∧ Ext H K ∧ K[lf]? = some (.dict es) ∧ Has es F ∧ Lv (hgt g r c) (fun k => valOf k ∈ (cells r c).filter (inD es0)) F) ?_ ?_
  · simp only [↓wp_none, ↓wp_bool, ↓wp_int, ↓wp_glob, ↓wp_var, ↓wp_bin, ↓wp_not, ↓wp_and, ↓wp_or, ↓wp_cmp, ↓wp_cmp2, ↓wp_sub, ↓wp_oNone, ↓wp_oSome, ↓wp_tup, ↓wp_list, ↓wp_dict, ↓wp_callE, ↓wp_bf, ↓wp_bm, ↓wp_isinst, ↓wp_nil, ↓wp_cons, ↓wp_attr, ↓wp_umeth, ↓wp_new, ↓wps_nil, ↓wps_cons, ↓wps_expr, ↓wps_assign, ↓wps_ret, ↓wps_ite, ↓wps_raise, ↓wps_setattr, ↓wps_setitem, ↓wv_add, ↓wv_sub, ↓wv_mul, ↓wv_fdiv, ↓wv_mod, ↓wv_range, ↓wv_len_script, ↓wv_len_tup, ↓wv_max2, ↓go_eq, ↓go_ne, ↓go_neB, ↓go_isNotB, ↓go_isB, ↓go_lt, ↓go_gt, ↓go_le, ↓go_isNone_none, ↓go_isNone_int, ↓go_isNotNone_none, ↓go_isNotNone_int, ↓wi_int_int, ↓wi_int_bool, ↓wi_int_tup, ↓wi_int_list, ↓wi_bool_int, ↓wi_bool_bool, ↓wi_bool_tup, ↓wi_none_tup, ↓wi_none_int, ↓wi_str_tup, ↓wi_str_int, ↓wi_tup_tup, ↓wi_tup_int, ↓ws_tup0, ↓ws_tup1, ↓ws_tup2, ↓getV_zero, ↓getV_s, ↓getV_n, ↓getV_succ, ↓asBool_bool, ↓getO_some, ↓brB_true, ↓brB_false, ↓brB_not, ↓wp_ret, List.map_cons, List.map_nil, List.cons_append, List.nil_append, List.set_cons_zero, List.set_cons_succ, List.replicate_succ, List.replicate_zero, Bool.not_true, Bool.not_false, and_true, true_and, and_self]
    refine (l07_flood (d := d) og hr hc hrc LA hd).then ?_
    rintro v K ⟨lf, lo, es, F, rfl, e, hf, he, lv⟩
    simp only [↓wp_none, ↓wp_bool, ↓wp_int, ↓wp_glob, ↓wp_var, ↓wp_bin, ↓wp_not, ↓wp_and, ↓wp_or, ↓wp_cmp, ↓wp_cmp2, ↓wp_sub, ↓wp_oNone, ↓wp_oSome, ↓wp_tup, ↓wp_list, ↓wp_dict, ↓wp_callE, ↓wp_bf, ↓wp_bm, ↓wp_isinst, ↓wp_nil, ↓wp_cons, ↓wp_attr, ↓wp_umeth, ↓wp_new, ↓wps_nil, ↓wps_cons, ↓wps_expr, ↓wps_assign, ↓wps_ret, ↓wps_ite, ↓wps_raise, ↓wps_setattr, ↓wps_setitem, ↓wv_add, ↓wv_sub, ↓wv_mul, ↓wv_fdiv, ↓wv_mod, ↓wv_range, ↓wv_len_script, ↓wv_len_tup, ↓wv_max2, ↓go_eq, ↓go_ne, ↓go_neB, ↓go_isNotB, ↓go_isB, ↓go_lt, ↓go_gt, ↓go_le, ↓go_isNone_none, ↓go_isNone_int, ↓go_isNotNone_none, ↓go_isNotNone_int, ↓wi_int_int, ↓wi_int_bool, ↓wi_int_tup, ↓wi_int_list, ↓wi_bool_int, ↓wi_bool_bool, ↓wi_bool_tup, ↓wi_none_tup, ↓wi_none_int, ↓wi_str_tup, ↓wi_str_int, ↓wi_tup_tup, ↓wi_tup_int, ↓ws_tup0, ↓ws_tup1, ↓ws_tup2, ↓getV_zero, ↓getV_s, ↓getV_n, ↓getV_succ, ↓asBool_bool, ↓getO_some, ↓brB_true, ↓brB_false, ↓brB_not, ↓wp_ret, List.map_cons, List.map_nil, List.cons_append, List.nil_append, List.set_cons_zero, List.set_cons_succ, List.replicate_succ, List.replicate_zero, Bool.not_true, Bool.not_false, and_true, true_and, and_self]
    exact ⟨lf, es, F, rfl, e, hf, he, lv⟩
  rintro v K ⟨lf, es, F, rfl, e, hf, he, lv⟩
  have LK := LA.ext e
  obtain ⟨fs, f0, f1, f2, _⟩ := LK.inst
  have le := e.len
  simp only [↓wps_cons, ↓wps_ret, ↓wp_oSome]
  refine comp_rows (xs := rngL r) (src := none) 0 (fun (k : Nat) w => w = (List.range c).map fun (j : Nat) => ov (F ((k : Int), (j : Int)))) (it_rng (by omega) ?_) (fun _ _ => rfl) (by rw [rngN_len]; omega) ?_ ?_
  · simp only [↓wp_none, ↓wp_bool, ↓wp_int, ↓wp_glob, ↓wp_var, ↓wp_bin, ↓wp_not, ↓wp_and, ↓wp_or, ↓wp_cmp, ↓wp_cmp2, ↓wp_sub, ↓wp_oNone, ↓wp_oSome, ↓wp_tup, ↓wp_list, ↓wp_dict, ↓wp_callE, ↓wp_bf, ↓wp_bm, ↓wp_isinst, ↓wp_nil, ↓wp_cons, ↓wp_attr, ↓wp_umeth, ↓wp_new, ↓wps_nil, ↓wps_cons, ↓wps_expr, ↓wps_assign, ↓wps_ret, ↓wps_ite, ↓wps_raise, ↓wps_setattr, ↓wps_setitem, ↓wv_add, ↓wv_sub, ↓wv_mul, ↓wv_fdiv, ↓wv_mod, ↓wv_range, ↓wv_len_script, ↓wv_len_tup, ↓wv_max2, ↓go_eq, ↓go_ne, ↓go_neB, ↓go_isNotB, ↓go_isB, ↓go_lt, ↓go_gt, ↓go_le, ↓go_isNone_none, ↓go_isNone_int, ↓go_isNotNone_none, ↓go_isNotNone_int, ↓wi_int_int, ↓wi_int_bool, ↓wi_int_tup, ↓wi_int_list, ↓wi_bool_int, ↓wi_bool_bool, ↓wi_bool_tup, ↓wi_none_tup, ↓wi_none_int, ↓wi_str_tup, ↓wi_str_int, ↓wi_tup_tup, ↓wi_tup_int, ↓ws_tup0, ↓ws_tup1, ↓ws_tup2, ↓getV_zero, ↓getV_s, ↓getV_n, ↓getV_succ, ↓asBool_bool, ↓getO_some, ↓brB_true, ↓brB_false, ↓brB_not, ↓wp_ret, List.map_cons, List.map_nil, List.cons_append, List.nil_append, List.set_cons_zero, List.set_cons_succ, List.replicate_succ, List.replicate_zero, Bool.not_true, Bool.not_false, and_true, true_and, and_self]
    rw [wa_attr3 f0 f1]; exact ⟨rfl, rfl⟩
  · intro k x X hx eX
    obtain ⟨rfl, lk⟩ := rngN_get hx
    refine comp_pure (xs := rngL c) (src := none) (fun (j : Nat) v => v = ov (F ((k : Int), (j : Int)))) (it_rng (by omega) ?_) rfl (by rw [rngN_len]; omega) ?_ ?_
    · show wpE _ _ _ [some (.loc o), some (.loc lf), some (.int (k : Int))] _ _ _
      simp only [↓wp_none, ↓wp_bool, ↓wp_int, ↓wp_glob, ↓wp_var, ↓wp_bin, ↓wp_not, ↓wp_and, ↓wp_or, ↓wp_cmp, ↓wp_cmp2, ↓wp_sub, ↓wp_oNone, ↓wp_oSome, ↓wp_tup, ↓wp_list, ↓wp_dict, ↓wp_callE, ↓wp_bf, ↓wp_bm, ↓wp_isinst, ↓wp_nil, ↓wp_cons, ↓wp_attr, ↓wp_umeth, ↓wp_new, ↓wps_nil, ↓wps_cons, ↓wps_expr, ↓wps_assign, ↓wps_ret, ↓wps_ite, ↓wps_raise, ↓wps_setattr, ↓wps_setitem, ↓wv_add, ↓wv_sub, ↓wv_mul, ↓wv_fdiv, ↓wv_mod, ↓wv_range, ↓wv_len_script, ↓wv_len_tup, ↓wv_max2, ↓go_eq, ↓go_ne, ↓go_neB, ↓go_isNotB, ↓go_isB, ↓go_lt, ↓go_gt, ↓go_le, ↓go_isNone_none, ↓go_isNone_int, ↓go_isNotNone_none, ↓go_isNotNone_int, ↓wi_int_int, ↓wi_int_bool, ↓wi_int_tup, ↓wi_int_list, ↓wi_bool_int, ↓wi_bool_bool, ↓wi_bool_tup, ↓wi_none_tup, ↓wi_none_int, ↓wi_str_tup, ↓wi_str_int, ↓wi_tup_tup, ↓wi_tup_int, ↓ws_tup0, ↓ws_tup1, ↓ws_tup2, ↓getV_zero, ↓getV_s, ↓getV_n, ↓getV_succ, ↓asBool_bool, ↓getO_some, ↓brB_true, ↓brB_false, ↓brB_not, ↓wp_ret, List.map_cons, List.map_nil, List.cons_append, List.nil_append, List.set_cons_zero, List.set_cons_succ, List.replicate_succ, List.replicate_zero, Bool.not_true, Bool.not_false, and_true, true_and, and_self]
      rw [wa_attr3 (eX.get f0) f2]; exact ⟨rfl, rfl⟩
    · intro j y hy
      obtain ⟨rfl, lj⟩ := rngN_get hy
      show wpE _ _ _ [some (.loc o), some (.loc lf), some (.int (k : Int)), some (.int (j : Int))] _ _ _
      simp only [↓wp_none, ↓wp_bool, ↓wp_int, ↓wp_glob, ↓wp_var, ↓wp_bin, ↓wp_not, ↓wp_and, ↓wp_or, ↓wp_cmp, ↓wp_cmp2, ↓wp_sub, ↓wp_oNone, ↓wp_oSome, ↓wp_tup, ↓wp_list, ↓wp_dict, ↓wp_callE, ↓wp_bf, ↓wp_bm, ↓wp_isinst, ↓wp_nil, ↓wp_cons, ↓wp_attr, ↓wp_umeth, ↓wp_new, ↓wps_nil, ↓wps_cons, ↓wps_expr, ↓wps_assign, ↓wps_ret, ↓wps_ite, ↓wps_raise, ↓wps_setattr, ↓wps_setitem, ↓wv_add, ↓wv_sub, ↓wv_mul, ↓wv_fdiv, ↓wv_mod, ↓wv_range, ↓wv_len_script, ↓wv_len_tup, ↓wv_max2, ↓go_eq, ↓go_ne, ↓go_neB, ↓go_isNotB, ↓go_isB, ↓go_lt, ↓go_gt, ↓go_le, ↓go_isNone_none, ↓go_isNone_int, ↓go_isNotNone_none, ↓go_isNotNone_int, ↓wi_int_int, ↓wi_int_bool, ↓wi_int_tup, ↓wi_int_list, ↓wi_bool_int, ↓wi_bool_bool, ↓wi_bool_tup, ↓wi_none_tup, ↓wi_none_int, ↓wi_str_tup, ↓wi_str_int, ↓wi_tup_tup, ↓wi_tup_int, ↓ws_tup0, ↓ws_tup1, ↓ws_tup2, ↓getV_zero, ↓getV_s, ↓getV_n, ↓getV_succ, ↓asBool_bool, ↓getO_some, ↓brB_true, ↓brB_false, ↓brB_not, ↓wp_ret, List.map_cons, List.map_nil, List.cons_append, List.nil_append, List.set_cons_zero, List.set_cons_succ, List.replicate_succ, List.replicate_zero, Bool.not_true, Bool.not_false, and_true, true_and, and_self]
      rw [getO_of (fits_get (eX.get hf)), wm_get (eX.get hf), he]
      refine ⟨?_, rfl⟩
      cases F ((k : Int), (j : Int)) <;> rfl
    · intro ys hl hp
      refine ⟨ys, eq_of_get (by rw [hl, rngN_len, List.length_map, List.length_range]) (fun j v hv => ?_), rfl, ⟨_, rfl⟩, by rw [List.length_append]; rfl, get_new X _⟩
      have lj : j < c := by have := (List.getElem?_eq_some_iff.mp hv).1; rw [hl, rngN_len] at this; exact this
      rw [row_at lj, hp j v hv]
  · intro g' X hl hp eX G hX
    rw [rngN_len] at hl
    have : g' = table F r c := eq_of_get (by rw [hl, table_len]) fun k w hw => by
      have lk : k < r := by have := (List.getElem?_eq_some_iff.mp hw).1; omega
      rw [table_row lk, hp k w hw]
    rw [this] at G
    rw [this, table_len]
    rw [table_len] at G
    simp only [Nat.zero_add, Nat.one_mul, Nat.add_zero] at G ⊢
    exact ⟨_, K.length, F, rfl, e.trans eX, by omega, by omega, rfl, G, lv⟩
end
end Mine.Pure

-- part L7O
namespace Mine.Pure
open PySem Pile
noncomputable def rowKeys (i c : Nat) : List Key := (List.range c).map fun (j : Nat) => ((i : Int), (j : Int))
theorem keys_succ (r c : Nat) : keys (r + 1) c = keys r c ++ rowKeys r c := by
  unfold keys rowKeys; rw [List.range_succ, List.flatMap_append]; simp
theorem rowKeys_succ (i c : Nat) : rowKeys i (c + 1) = rowKeys i c ++ [((i : Int), (c : Int))] := by
  unfold rowKeys; rw [List.range_succ, List.map_append]; rfl
theorem rowKeys_len (i c : Nat) : (rowKeys i c).length = c := by unfold rowKeys; rw [List.length_map, List.length_range]
/- the law's drains -/
noncomputable def dpick (g : List (List Val)) (r c : Nat) (n e : Int) (k : Key) : Bool := (hgt g r c k).isSome && decide (Int.fmod (n + (k.1 * c + k.2) * (1 + Int.fmod (Int.fdiv n 12) 5)) e = 0)
section
variable {T : Tab} {Φ : Funs} {Γ : Env'} {H K : Hp} {Q : Val → Hp → Prop} {E : Nat → Hp → Prop} {d : Nat} {QS : Env' → Hp → Prop} {R : Val → Hp → Prop} {ES : Nat → Env' → Hp → Prop} {l b s r c : Nat} {g : List (List Val)}
theorem row0N (hS : OkS r c) (og : OkG g r c) (G : GAt H l b s g) : ∃ w, ((List.range g.length).map fun i => Val.loc (b + s * i))[0]? = some (.loc b) ∧ H[b]? = some (.list w) ∧ w.length = c := by
  obtain ⟨w, x, _, _, _, lw, hi, hr⟩ := row0 hS og G
  exact ⟨w, hi, hr, lw⟩
theorem len0 {w : List Val} (h1 : ((List.range g.length).map fun i => Val.loc (b + s * i))[0]? = some (.loc b)) (top : H[l]? = some (.list ((List.range g.length).map fun i => Val.loc (b + s * i)))) (h2 : H[b]? = some (.list w)) : Wp (subV (.loc l) (.int 0)) H (fun v H' => Wp (bfV .len [v]) H' Q E) E = Q (.int (w.length : Nat)) H := by
  rw [show (0 : Int) = ((0 : Nat) : Int) from rfl, ws_eq3 top h1, wv_len_loc h2]
theorem wv_at {i j : Nat} {w : List Val} {x : Val} (G : GAt H l b s g) (hw : g[i]? = some w) (hx : w[j]? = some x) : Wp (subV (.loc l) (.int (i : Int))) H (fun v H' => Wp (subV v (.int (j : Int))) H' Q E) E = Q x H := by
  rw [ws_eq3 G.top (G.item (List.getElem?_eq_some_iff.mp hw).1), ws_eq3 (G.row i w hw) hx]
theorem ld_cond {i j : Nat} {n e : Int} {x0 x4 : Val} (og : OkG g r c) (G : GAt H l b s g) (hi : i < r) (hj : j < c) (h0 : e ≠ 0) (sm : small ((i : Int) * (c : Int) + (j : Int)) = true) :
    wpE T_07 (callF T_07 (d + 1)) (.and (.cmp .isNot (.sub (.sub (.var 1) (.var 5)) (.var 6)) .none) (.cmp .eq (.bin .mod (.bin .add (.var 2) (.bin .mul (.var 7) (.bin .add (.int 1) (.bin .mod (.bin .fdiv (.var 2) (.int 12)) (.int 5))))) (.var 3)) (.int 0)))
      [some x0, some (.loc l), some (.int n), some (.int e), some x4, some (.int (i : Int)), some (.int (j : Int)), some (.int ((i : Int) * (c : Int) + (j : Int)))] H (fun v K => v = .bool (dpick g r c n e ((i : Int), (j : Int))) ∧ K = H) NoE := by
  obtain ⟨w', y, hw', hy, hcase⟩ := hgt_at og hi hj
  show Wp (subV (.loc l) (.int (i : Int))) H (fun v H' => Wp (subV v (.int (j : Int))) H' _ _) _
  rw [wv_at G hw' hy]
  rcases hcase with ⟨rfl, hn⟩ | ⟨a, rfl, _, ha⟩
  · exact ⟨congrArg Val.bool (show false = ((hgt g r c ((i : Int), (j : Int))).isSome && _) by rw [hn]; rfl), rfl⟩
  · exact ⟨by decide, by decide, by rw [sm]; rfl, h0, congrArg Val.bool (show decide _ = ((hgt g r c ((i : Int), (j : Int))).isSome && decide _) by rw [ha]; rfl), rfl⟩
theorem ld_step {ns : List Int} {ks : List Key} {i j : Nat} {n e : Int} {a7 : Option Val} (hS : OkS r c) (og : OkG g r c) (G : GAt K l b s g) (hi : i < r) (hj : j < c) (h0 : e ≠ 0) (kl : ks.length < 1000)
    (q : ∀ a7, QS [some (.script ns), some (.loc l), some (.int n), some (.int e), some (.loc K.length), some (.int (i : Int)), some (.int (j : Int)), a7] (K ++ [.list ((ks ++ [((i : Int), (j : Int))].filter (dpick g r c n e)).map valOf)])) :
    wpSs T_07 (callF T_07 (d + 1)) (.cons (.assign 7 (.bin .add (.bin .mul (.var 5) (.bf .len (.cons (.sub (.var 1) (.int 0)) .nil))) (.var 6))) (.cons (.ite (.and (.cmp .isNot (.sub (.sub (.var 1) (.var 5)) (.var 6)) .none) (.cmp .eq (.bin .mod (.bin .add (.var 2) (.bin .mul (.var 7) (.bin .add (.int 1) (.bin .mod (.bin .fdiv (.var 2) (.int 12)) (.int 5))))) (.var 3)) (.int 0))) (.cons (.expr (.bm (.var 4) .append (.cons (.tup (.cons (.var 5) (.cons (.var 6) .nil))) .nil))) .nil) .nil) .nil)) [some (.script ns), some (.loc l), some (.int n), some (.int e), some (.loc K.length), some (.int (i : Int)), some (.int (j : Int)), a7] (K ++ [.list (ks.map valOf)]) QS R NoX := by
  have hlid : lid = 16777216 := rfl
  unfold OkS at hS
  have GK : GAt (K ++ [.list (ks.map valOf)]) l b s g := G.ext ⟨_, rfl⟩
  have mul := Nat.mul_le_mul (show i ≤ 29 by omega) (show c ≤ 30 by omega)
  have sm : small ((i : Int) * (c : Int) + (j : Int)) = true := by
    rw [show ((i : Int) * (c : Int) + (j : Int)) = ((i * c + j : Nat) : Int) by rw [Int.natCast_add, Int.natCast_mul]]
    unfold small; simp; omega
  have smi : small (i : Int) = true := by unfold small; simp; omega
  refine wps_asg (fun v K' => v = .int ((i : Int) * (c : Int) + (j : Int)) ∧ K' = K ++ [.list (ks.map valOf)]) ?_ ?_
  · obtain ⟨w, h1, h2, lw⟩ := row0N (by unfold OkS; exact hS) og GK
    simp only [↓wp_bin, ↓wp_bf, ↓wp_cons, ↓wp_nil, ↓wp_sub, ↓wp_var, ↓wp_int, ↓getV_s, ↓getV_zero]
    rw [len0 h1 GK.top h2, lw]
    exact ⟨by rw [smi]; rfl, rfl, rfl⟩
  rintro v K' ⟨rfl, rfl⟩
  rw [wps_cons, wps_ite]
  refine wpE_then (ld_cond og GK hi hj h0 sm) ?_
  rintro v K' ⟨rfl, rfl⟩
  rw [asBool_bool]
  refine brB_cases (fun h => ?_) (fun h => ?_)
  · rw [List.filter_cons_of_pos h] at q
    refine wps_ex (fun K' => K' = K ++ [.list ((ks ++ [((i : Int), (j : Int))]).map valOf)]) ?_ (fun K' h => by rw [h]; exact q _)
    refine wp_appendE rfl (get_new K _) ?_
    refine ⟨_, get_new K _, by rw [List.length_map]; omega, ?_⟩
    rw [set_new, List.map_append]; rfl
  · rw [List.filter_cons_of_neg (by rw [h]; exact Bool.false_ne_true), List.filter_nil, List.append_nil] at q
    exact q _
theorem ld_every (n : Int) : ∃ e : Int, e ≠ 0 ∧ ∀ (x0 x1 : Val) (H : Hp), wpE T_07 (callF T_07 d) (.sub (.list (.cons (.int 2) (.cons (.int 3) (.cons (.int 5) (.cons (.int 9) (.cons (.int 14) .nil)))))) (.bin .mod (.bin .fdiv (.var 2) (.int 60)) (.int 5))) [some x0, some x1, some (.int n), none, none, none, none, none] H (fun v K => v = .int e ∧ Ext H K) NoE := by
  obtain ⟨k, hk, lk⟩ := fmod_nat (Int.fdiv n 60) 5 (by decide)
  obtain ⟨e, he⟩ : ∃ e, ([2, 3, 5, 9, 14] : List Int)[k]? = some e := ⟨_, List.getElem?_eq_getElem lk⟩
  have h0 : ∀ e ∈ ([2, 3, 5, 9, 14] : List Int), e ≠ 0 := by decide
  refine ⟨e, h0 e (List.mem_of_getElem? he), fun x0 x1 H => ⟨by decide, by decide, ?_⟩⟩
  rw [show Int.fmod (Int.fdiv n 60) 5 = (k : Int) from hk]
  refine ws_list (get_new H _) (by omega) ?_ ⟨rfl, ⟨_, rfl⟩⟩
  rw [Int.toNat_natCast]
  show (([2, 3, 5, 9, 14] : List Int).map Val.int)[k]? = _
  rw [List.getElem?_map, he]; rfl
theorem l07_ldrains (ns : List Int) (hS : OkS r c) (og : OkG g r c) (G : GAt H l b s g) :
    Wp (callF T_07 (d + 2) 14 [.script ns, .loc l]) H (fun v H' => ∃ m n e, v = .loc m ∧ H.length ≤ m ∧ Ext H H' ∧ H'[m]? = some (.list (((keys r c).filter (dpick g r c n e)).map valOf))) NoE := by
  have hS' := hS
  unfold OkS at hS'
  rw [wp_call (g := f14_07) rfl rfl, f14_07]
  refine wps_asg (fun v K => ∃ n, v = .int n ∧ K = H) ?_ ?_
  · show Wp (callF T_07 (d + 1) 8 [.script ns, .int ((2 : Nat) : Int)]) H _ _
    rw [l07_cell]
    exact ⟨_, rfl, rfl⟩
  rintro v K ⟨n, rfl, rfl⟩
  obtain ⟨e, h0, he⟩ := ld_every (d := d + 1) n
  refine wps_asg _ (he _ _ _) ?_
  clear he
  rintro v H1 ⟨rfl, e1⟩
  have G1 := G.ext e1
  refine wps_asg (fun v K => v = .loc H1.length ∧ K = H1 ++ [.list (([] : List Key).map valOf)]) ⟨rfl, rfl⟩ ?_
  rintro v K ⟨rfl, rfl⟩
  have ll := len_rows og (b := b) (s := s) (l := l)
  obtain ⟨I, hI⟩ := hide3 (fun (i : Nat) (Γ : Env') (K : Hp) => ∃ a5 a6 a7, Γ = [some (.script ns), some (.loc l), some (.int n), some (.int e), some (.loc H1.length), a5, a6, a7] ∧ K = H1 ++ [.list (((keys i c).filter (dpick g r c n e)).map valOf)])
  refine wps_seq (I r) ?_ ?_
  · refine wps_eachR (n := r) I ?_ ⟨by omega, by omega⟩ ((hI _ _ _).mpr ⟨_, _, _, rfl, rfl⟩) ?_ (fun Γ K h => by rw [Int.toNat_natCast] at h; exact h)
    · show Wp (bfV .len [.loc l]) _ _ _
      rw [wv_len_loc (Ext.get ⟨_, rfl⟩ G1.top), ll]; exact ⟨rfl, rfl⟩
    · intro i Γ K hi h
      obtain ⟨a5, a6, a7, rfl, rfl⟩ := (hI _ _ _).mp h
      have hi' : i < r := by omega
      obtain ⟨J, hJ⟩ := hide3 (fun (j : Nat) (Γ : Env') (K : Hp) => ∃ a6 a7, Γ = [some (.script ns), some (.loc l), some (.int n), some (.int e), some (.loc H1.length), some (.int (i : Int)), a6, a7] ∧ K = H1 ++ [.list (((keys i c ++ rowKeys i j).filter (dpick g r c n e)).map valOf)])
      rw [wps_cons]
      refine wps_eachR (n := c) J ?_ ⟨by omega, by omega⟩ ((hJ _ _ _).mpr ⟨_, _, rfl, by rw [show rowKeys i 0 = [] from rfl, List.append_nil]⟩) ?_ ?_
      · obtain ⟨w, h1, h2, lw⟩ := row0N hS og G1
        have e0 : Ext H1 (H1 ++ [HObj.list (((keys i c).filter (dpick g r c n e)).map valOf)]) := ⟨_, rfl⟩
        show Wp (subV (.loc l) (.int 0)) _ (fun v H' => Wp (bfV .len [v]) H' _ _) _
        rw [len0 h1 (e0.get G1.top) (e0.get h2), lw]; exact ⟨rfl, rfl⟩
      · intro j Γ K hj h
        obtain ⟨a6, a7, rfl, rfl⟩ := (hJ _ _ _).mp h
        refine ld_step hS og G1 hi' (by omega) h0 ?_ fun a7 => (hJ _ _ _).mpr ⟨_, _, rfl, ?_⟩
        · have := List.length_filter_le (dpick g r c n e) (keys i c ++ rowKeys i j)
          rw [List.length_append, keys_len, rowKeys_len] at this
          have := Nat.mul_le_mul (show i ≤ 29 by omega) (show c ≤ 30 by omega)
          omega
        · rw [rowKeys_succ, ← List.append_assoc, ← List.filter_append]
      · intro Γ K h
        obtain ⟨a6, a7, rfl, rfl⟩ := (hJ _ _ _).mp h
        refine (hI _ _ _).mpr ⟨_, _, _, rfl, ?_⟩
        rw [Int.toNat_natCast, ← keys_succ]
  intro Γ K h
  obtain ⟨a5, a6, a7, rfl, rfl⟩ := (hI _ _ _).mp h
  exact ⟨H1.length, n, e, rfl, e1.len, e1.trans ⟨_, rfl⟩, get_new H1 _⟩
end
end Mine.Pure

-- part L7Q
namespace Mine.Pure
open PySem Pile
theorem dput_in (es : List (Key × Val)) (k : Key) (v : Val) (k' : Key) : inD (dput es k v) (valOf k') = true ↔ (inD es (valOf k') = true ∨ k' = k) := by
  show (dget (dput es k v) k').isSome = true ↔ ((dget es k').isSome = true ∨ k' = k)
  rw [dget_put]
  by_cases e : k' = k
  · rw [if_pos e]; exact ⟨fun _ => .inr e, fun _ => rfl⟩
  · rw [if_neg e]; exact ⟨fun h => .inl h, fun h => h.resolve_right e⟩
section
variable {T : Tab} {Φ : Funs} {Γ : Env'} {H K : Hp} {Q : Val → Hp → Prop} {E : Nat → Hp → Prop} {d : Nat} {QS : Env' → Hp → Prop} {R : Val → Hp → Prop} {ES : Nat → Env' → Hp → Prop} {l b s r c : Nat} {g : List (List Val)}
theorem ld_new (hS : OkS r c) (og : OkG g r c) (G : GAt H l b s g) {x1 x2 x3 : Option Val} : wpE T_07 (callF T_07 (d + 4)) (.new 5 (.cons (.comp (.bf .list (.cons (.var 4) .nil)) (.var 0) .none) .nil)) [some (.loc l), x1, x2, x3] H (fun v K => ∃ o lg b' ls, v = .loc o ∧ Ext H K ∧ LandAt K o r c lg b' 1 ls g [] ∧ H.length ≤ ls) NoE := by
  unfold OkS at hS
  rw [wp_new, getO_of (show T_07.meth 5 0 = some 20 from rfl), wp_cons]
  refine wp_copy (l := l) (b := b) (s := s) (g := g) rfl G (by rw [og.len]; show r < 16777216; omega) ⟨rfl, rfl⟩ ?_
  intro K e GK hK
  rw [wp_nil]
  refine (wn_land (d := d + 1) (by unfold OkS; exact hS) og GK).then ?_
  rintro v K2 ⟨rfl, e2, lg, b', ls, L, _, _, h3⟩
  exact ⟨_, lg, b', ls, rfl, e.trans e2, L, Nat.le_trans e.len (Nat.le_of_lt h3)⟩
theorem ld_open {o lg b' ls i j : Nat} {es : List (Key × Val)} {w : List Val} {a : Int} {x0 x1 : Val} (LK : LandAt K o r c lg b' 1 ls g es) (hi : i < r) (hj : j < c) (hw : g[i]? = some w) (hx : w[j]? = some (.int a)) (el : es.length < 1000)
    (q : QS [some x0, some x1, some (.loc o), some (valOf ((i : Int), (j : Int)))] (K.set ls (.dict (dput es ((i : Int), (j : Int)) (.bool true))))) :
    wpSs T_07 (callF T_07 (d + 4)) (.cons (.expr (.umeth (.var 2) 3 (.cons (.var 3) .nil))) .nil) [some x0, some x1, some (.loc o), some (valOf ((i : Int), (j : Int)))] K QS R NoX := by
  have hlid : lid = 16777216 := rfl
  obtain ⟨fs, f0, _⟩ := LK.inst
  show Wp (umethOf T_07 (.loc o) 3) K _ _
  rw [wu_meth3 f0 (show T_07.meth 5 3 = some 23 from rfl)]
  refine (l07_opened (d := d) hi hj LK hw hx (by omega)).then ?_
  rintro v K' ⟨_, rfl⟩
  exact q
theorem l07_land {m : Nat} {ks : List Key} (hS : OkS r c) (og : OkG g r c) (G : GAt H l b s g) (hm : H[m]? = some (.list (ks.map valOf))) (hk : ∀ k ∈ ks, ∃ a, hgt g r c k = some a) (kl : ks.length < 1000) :
    Wp (callF T_07 (d + 5) 15 [.loc l, .loc m]) H (fun v H' => ∃ o lg b' ls es, v = .loc o ∧ Ext H H' ∧ LandAt H' o r c lg b' 1 ls g es ∧ ∀ k, inD es (valOf k) = true ↔ k ∈ ks) NoE := by
  rw [wp_call (g := f15_07) rfl rfl, f15_07]
  refine wps_asg _ (ld_new hS og G) ?_
  clear G hS
  rintro v K ⟨o, lg, b', ls, rfl, e, L, h4⟩
  obtain ⟨I, hI⟩ := hide3 (fun (n : Nat) (Γ : Env') (K : Hp) => ∃ es a, Γ = [some (.loc l), some (.loc m), some (.loc o), a] ∧ Ext H K ∧ LandAt K o r c lg b' 1 ls g es ∧ (∀ k, inD es (valOf k) = true ↔ k ∈ ks.take n) ∧ es.length ≤ n)
  refine wps_seq (I ks.length) ?_ ?_
  · apply wps_each
    show getO (iterOf (.loc m) K) _
    rw [getO_of (iter_list (e.get hm))]
    show WpS (eachL (chk (some m) (ks.map valOf)) (bind1 3) _ (ks.map valOf) _ _) _ _ _
    refine wps_eachN I ((hI _ _ _).mpr ⟨[], none, rfl, e, L, (fun k => ⟨(fun h => nomatch h), (fun h => nomatch h)⟩), Nat.le_refl _⟩) ?_ ?_ ?_
    · intro Γ K h
      rw [List.length_map] at h; exact h
    · intro n Γ K _ h
      obtain ⟨es, a, _, eK, _⟩ := (hI _ _ _).mp h
      exact chk_list (eK.get hm)
    · clear L e
      intro n z Γ K hz h
      obtain ⟨es, a, rfl, eK, LK, hes, el⟩ := (hI _ _ _).mp h
      obtain ⟨q, hq, rfl⟩ := map_get hz
      have ln := (List.getElem?_eq_some_iff.mp hq).1
      obtain ⟨y, hy⟩ := hk q (List.mem_of_getElem? hq)
      obtain ⟨i, j, rfl, hi, hj⟩ := inR_nat (hgt_in hy)
      obtain ⟨w, x, hw, hx, hcase⟩ := hgt_at og hi hj
      rcases hcase with ⟨_, hn⟩ | ⟨a', rfl, ha0, ha'⟩
      · rw [hn] at hy; cases hy
      refine ⟨_, rfl, ld_open LK hi hj hw hx (by omega) ((hI _ _ _).mpr ⟨_, _, rfl, eK.set h4 _, LK.sink, fun k => ?_, Nat.le_trans (dput_len _ _ _) (Nat.succ_le_succ el)⟩)⟩
      rw [dput_in, hes, mem_take_succ hq]
  intro Γ K h
  obtain ⟨es, a, rfl, eK, LK, hes, _⟩ := (hI _ _ _).mp h
  rw [List.take_length] at hes
  exact ⟨o, lg, b', ls, es, rfl, eK, LK, hes⟩
/- one cell more, if it lies in the grid -/
theorem app_if {cnd e : ME} {ks : List Key} {q : Key} {K0 : Hp} {ll rr cc : Nat} {v0 v1 : Option Val} (kl : ks.length < 100) (hl : ll = K0.length)
    (hc : wpE T Φ cnd [v0, v1, some (.loc ll)] (K0 ++ [.list (ks.map valOf)]) (fun v K => v = .bool (inR rr cc q) ∧ K = K0 ++ [.list (ks.map valOf)]) NoE)
    (he : wpE T Φ e [v0, v1, some (.loc ll)] (K0 ++ [.list (ks.map valOf)]) (fun v K => v = valOf q ∧ K = K0 ++ [.list (ks.map valOf)]) NoE)
    {ss : MSs} (hq : wpSs T Φ ss [v0, v1, some (.loc ll)] (K0 ++ [.list ((ks ++ [q].filter (inR rr cc)).map valOf)]) QS R ES) : wpSs T Φ (.cons (.ite cnd (.cons (.expr (.bm (.var 2) .append (.cons e .nil))) .nil) .nil) ss) [v0, v1, some (.loc ll)] (K0 ++ [.list (ks.map valOf)]) QS R ES := by
  have hlid : lid = 16777216 := rfl
  subst hl
  rw [wps_cons, wps_ite]
  refine wpE_then hc ?_
  rintro v K ⟨rfl, e1⟩
  rw [e1, asBool_bool]; clear e1 K
  refine brB_cases (fun h => ?_) (fun h => ?_)
  · rw [List.filter_cons_of_pos h] at hq
    refine wps_ex (fun K => K = K0 ++ [.list ((ks ++ [q]).map valOf)]) ?_ (fun K h => by rw [h, wps_nil]; exact hq)
    refine wp_appendE rfl (get_new K0 _) (wpE_then he ?_)
    rintro v K ⟨rfl, rfl⟩
    refine ⟨_, get_new K0 _, by rw [List.length_map]; omega, ?_⟩
    rw [set_new, List.map_append]; rfl
  · rw [List.filter_cons_of_neg (by rw [h]; exact Bool.false_ne_true), List.filter_nil, List.append_nil] at hq
    rw [wps_nil]; exact hq
theorem wv_list0 (hS : OkS r c) (og : OkG g r c) (G : GAt H l b s g) : Wp (subV (.loc l) (.int 0)) H (fun v H' => Wp (bfV .len [v]) H' Q E) E = Q (.int (c : Int)) H := by
  obtain ⟨w, h1, h2, lw⟩ := row0N hS og G
  rw [show (0 : Int) = ((0 : Nat) : Int) from rfl, ws_eq3 G.top h1, wv_len_loc h2, lw]
theorem bes_app (r c : Nat) (i j : Int) : bes r c i j = ((([] ++ [(i - 1, j)].filter (inR r c)) ++ [(i, j - 1)].filter (inR r c)) ++ [(i, j + 1)].filter (inR r c)) ++ [(i + 1, j)].filter (inR r c) := by
  unfold bes nears
  rw [List.nil_append, ← List.filter_append, ← List.filter_append, ← List.filter_append]; rfl
set_option maxHeartbeats 1000000 in
theorem l07_lbeside {i j : Nat} (hS : OkS r c) (og : OkG g r c) (G : GAt H l b s g) (hi : i < r) (hj : j < c) :
    Wp (callF T_07 (d + 1) 16 [.loc l, .tup [.int (i : Int), .int (j : Int)]]) H (fun v H' => ∃ m, v = .loc m ∧ Ext H H' ∧ H'[m]? = some (.list (((bes r c i j).filter (fun q => (hgt g r c q).isSome)).map valOf))) NoE := by
  have hlid : lid = 16777216 := rfl
  have hS' := hS
  unfold OkS at hS'
  have GX : ∀ ob, GAt (H ++ [ob]) l b s g := fun ob => G.ext ⟨_, rfl⟩
  have ll := len_rows og (b := b) (s := s) (l := l)
  have l1 : ∀ k : Key, ([k].filter (inR r c)).length ≤ 1 := fun k => List.length_filter_le _ _
  rw [wp_call (g := f16_07) rfl rfl, f16_07]
  refine wps_asg (fun v K => v = .loc H.length ∧ K = H ++ [.list (([] : List Key).map valOf)]) ⟨rfl, rfl⟩ ?_
  rintro v K ⟨rfl, e⟩
  rw [e]; clear e K
  have a1 := l1 ((i : Int) - 1, (j : Int))
  have a2 := l1 ((i : Int), (j : Int) - 1)
  have a3 := l1 ((i : Int), (j : Int) + 1)
  refine app_if (q := ((i : Int) - 1, (j : Int))) (rr := r) (cc := c) (by decide) rfl ?_ (by exact ⟨rfl, rfl⟩) ?_
  · refine ⟨?_, rfl⟩
    exact congrArg Val.bool (decide_eq_decide.mpr ⟨fun h => ⟨by omega, by omega, by omega, by omega⟩, fun h => by have := h.1; omega⟩)
  refine app_if (q := ((i : Int), (j : Int) - 1)) (rr := r) (cc := c) (by simp only [List.length_append, List.length_nil]; omega) rfl ?_ (by exact ⟨rfl, rfl⟩) ?_
  · refine ⟨?_, rfl⟩
    exact congrArg Val.bool (decide_eq_decide.mpr ⟨fun h => ⟨by omega, by omega, by omega, by omega⟩, fun h => by have := h.2.2.1; omega⟩)
  refine app_if (q := ((i : Int), (j : Int) + 1)) (rr := r) (cc := c) (by simp only [List.length_append, List.length_nil]; omega) rfl ?_ (by exact ⟨rfl, rfl⟩) ?_
  · show Wp (subV (.loc l) (.int 0)) _ (fun v H' => Wp (bfV .len [v]) H' _ _) _
    rw [wv_list0 hS og (GX _), go_lt]
    exact ⟨congrArg Val.bool (decide_eq_decide.mpr ⟨fun h => ⟨by omega, by omega, by omega, by omega⟩, fun h => by have := h.2.2.2; omega⟩), rfl⟩
  refine app_if (q := ((i : Int) + 1, (j : Int))) (rr := r) (cc := c) (by simp only [List.length_append, List.length_nil]; omega) rfl ?_ (by exact ⟨rfl, rfl⟩) ?_
  · show Wp (bfV .len [.loc l]) _ _ _
    rw [wv_len_loc (GX _).top, ll, go_lt]
    exact ⟨congrArg Val.bool (decide_eq_decide.mpr ⟨fun h => ⟨by omega, by omega, by omega, by omega⟩, fun h => by have := h.2.1; omega⟩), rfl⟩
  rw [← bes_app]
  have blen := bes_len r c i j
  have bin : ∀ q ∈ bes r c i j, inR r c q = true := fun q hq => (mem_bes.mp hq).2
  generalize bes r c i j = bs at *
  have e0 : Ext H (H ++ [HObj.list (bs.map valOf)]) := ⟨_, rfl⟩
  rw [wps_cons, wps_ret, wp_oSome]
  refine wp_pick (l := H.length) (ks := bs) (p := fun q => (hgt g r c q).isSome) rfl (get_new H _) (by omega) ⟨rfl, rfl⟩ (fun q hq => ?_) ⟨_, rfl, e0.new _, get_new _ _⟩
  obtain ⟨i', j', rfl, hi', hj'⟩ := inR_nat (bin q hq)
  obtain ⟨w, y, hw, hy, hcase⟩ := hgt_at og hi' hj'
  show Wp (subV (.loc l) (.int (i' : Int))) _ (fun v H' => Wp (subV v (.int (j' : Int))) H' _ _) _
  rw [wv_at (GX _) hw hy]
  rcases hcase with ⟨rfl, hn⟩ | ⟨a, rfl, _, ha⟩
  · rw [hn]; exact ⟨rfl, rfl⟩
  · rw [ha]; exact ⟨rfl, rfl⟩
end
end Mine.Pure

-- part L7R
namespace Mine.Pure
open PySem Pile
section
variable {T : Tab} {Φ : Funs} {Γ : Env'} {H K : Hp} {Q : Val → Hp → Prop} {E : Nat → Hp → Prop} {d : Nat} {QS : Env' → Hp → Prop} {R : Val → Hp → Prop} {ES : Nat → Env' → Hp → Prop} {l b s r c lt bt st : Nat} {g : List (List Val)} {F : Key → Option Int}
theorem ov_case (x : Option Int) : (x = none ∧ ov x = .none) ∨ ∃ n, x = some n ∧ ov x = .int n := by
  cases x with
  | none => exact .inl ⟨rfl, rfl⟩
  | some n => exact .inr ⟨n, rfl, rfl⟩
theorem trow_of {k : Nat} {x : Val} (G : GAt H lt bt st (table F r c)) (hx : ((List.range (table F r c).length).map fun i => Val.loc (bt + st * i))[k]? = some x) : k < r ∧ x = .loc (bt + st * k) ∧ H[bt + st * k]? = some (.list ((List.range c).map fun (j : Nat) => ov (F ((k : Int), (j : Int))))) := by
  have lk : k < r := by
    have := (List.getElem?_eq_some_iff.mp hx).1
    rw [List.length_map, List.length_range, table_len] at this
    exact this
  rw [G.item (by rw [table_len]; exact lk)] at hx
  cases hx
  exact ⟨lk, rfl, G.row k _ (table_row lk)⟩
theorem tlen : ((List.range (table F r c).length).map fun i => Val.loc (bt + st * i)).length = r := by rw [List.length_map, List.length_range, table_len]
theorem rlen (f : Nat → Val) : ((List.range c).map f).length = c := by rw [List.length_map, List.length_range]
theorem ist_row {f : Nat → Option Int} {ll : Nat} {x0 x1 : Val} {a3 : Option Val} (hr : H[ll]? = some (.list ((List.range c).map fun j => ov (f j)))) (q : ∀ a b, QS [some x0, some x1, a, b] H) :
    wpS T_07 (callF T_07 (d + 1)) (.each 3 (.var 2) (.cons (.ite (.and (.cmp .isNot (.var 3) .none) (.not (.call 9 (.cons (.var 3) .nil)))) (.cons (.ret (.some (.bool false))) .nil) .nil) .nil)) [some x0, some x1, some (.loc ll), a3] H QS R NoX := by
  obtain ⟨I, hI⟩ := hide3 (fun (k : Nat) (Γ : Env') (K : Hp) => H = K ∧ ∃ a e, Γ = [some x0, some x1, some a, e])
  refine wps_listL I ⟨rfl, rfl⟩ hr ((hI _ _ _).mpr ⟨rfl, _, _, rfl⟩) (fun k Γ K h => by rw [← ((hI _ _ _).mp h).1]; exact hr) ?_ ?_
  · intro j y Γ K hy h
    obtain ⟨rfl, a, e, rfl⟩ := (hI _ _ _).mp h
    have lj : j < c := by have := (List.getElem?_eq_some_iff.mp hy).1; rw [rlen] at this; exact this
    rw [row_at lj] at hy
    cases hy
    refine wps_no (fun K => H = K) ?_ (fun K h => (hI _ _ _).mpr ⟨h, _, _, rfl⟩)
    cases f j with
    | none => exact ⟨rfl, rfl⟩
    | some n =>
      rw [wp_and, wp_cmp, wp_var, getV_of (v := .int n) rfl, wp_none, go_isNotNone_int, asBool_bool, brB_true, wp_not, wp_callE, wp_cons, wp_var, getV_of (v := .int n) rfl, wp_nil, l07_wholeL]
      exact ⟨rfl, rfl⟩
  · intro Γ K h
    obtain ⟨rfl, a, b, rfl⟩ := (hI _ _ _).mp h
    exact q _ _
theorem ist_len {x0 l' : Nat} {w : List Val} {a3 : Option Val} (hS : OkS r c) (og : OkG g r c) (G : GAt H l b s g) (hw : H[l']? = some (.list w)) (lw : w.length = c) : wpE T_07 (callF T_07 (d + 1)) (.or (.not (.isinst (.var 2) .list)) (.cmp .ne (.bf .len (.cons (.var 2) .nil)) (.bf .len (.cons (.sub (.var 1) (.int 0)) .nil)))) [some (.loc x0), some (.loc l), some (.loc l'), a3] H (fun v K => v = .bool false ∧ H = K) NoE := by
  show Wp (isinstV T_07 (.loc l') .list) H _ _
  rw [wi_list _ _ hw]
  show Wp (bfV .len [.loc l']) H _ _
  rw [wv_len_loc hw]
  show Wp (subV (.loc l) (.int 0)) H (fun v H' => Wp (bfV .len [v]) H' _ _) _
  rw [wv_list0 hS og G, lw, go_ne, decide_eq_true rfl]
  exact ⟨rfl, rfl⟩
theorem ist_loop (hS : OkS r c) (og : OkG g r c) (G : GAt H l b s g) (GT : GAt H lt bt st (table F r c)) (q : ∀ a b, QS [some (.loc lt), some (.loc l), a, b] H) :
    wpS T_07 (callF T_07 (d + 1)) (.each 2 (.var 0) (.cons (.ite (.or (.not (.isinst (.var 2) .list)) (.cmp .ne (.bf .len (.cons (.var 2) .nil)) (.bf .len (.cons (.sub (.var 1) (.int 0)) .nil)))) (.cons (.ret (.some (.bool false))) .nil) .nil) (.cons (.each 3 (.var 2) (.cons (.ite (.and (.cmp .isNot (.var 3) .none) (.not (.call 9 (.cons (.var 3) .nil)))) (.cons (.ret (.some (.bool false))) .nil) .nil) .nil)) .nil))) [some (.loc lt), some (.loc l), none, none] H QS R NoX := by
  obtain ⟨I, hI⟩ := hide3 (fun (k : Nat) (Γ : Env') (K : Hp) => H = K ∧ ∃ a e, Γ = [some (.loc lt), some (.loc l), a, e])
  refine wps_listL I ⟨rfl, rfl⟩ GT.top ((hI _ _ _).mpr ⟨rfl, _, _, rfl⟩) (fun k Γ K h => by rw [← ((hI _ _ _).mp h).1]; exact GT.top) ?_ ?_
  · intro k x Γ K hx h
    obtain ⟨rfl, a, e, rfl⟩ := (hI _ _ _).mp h
    obtain ⟨lk, rfl, hr⟩ := trow_of GT hx
    refine wps_no _ (ist_len hS og G hr (rlen _)) ?_
    rintro _ rfl
    rw [wps_cons]
    exact ist_row hr fun a b => (hI _ _ _).mpr ⟨rfl, _, _, rfl⟩
  · intro Γ K h
    obtain ⟨rfl, a, b, rfl⟩ := (hI _ _ _).mp h
    exact q a b
theorem l07_istable (hS : OkS r c) (og : OkG g r c) (G : GAt H l b s g) (GT : GAt H lt bt st (table F r c)) : Wp (callF T_07 (d + 2) 17 [.loc lt, .loc l]) H (fun v H' => v = .bool true ∧ H' = H) NoE := by
  have ll := len_rows og (b := b) (s := s) (l := l)
  rw [wp_call (g := f17_07) rfl rfl, f17_07]
  refine wps_no (fun K => H = K) ?_ ?_
  · show Wp (isinstV T_07 (.loc lt) .list) H _ _
    rw [wi_list _ _ GT.top]
    show Wp (bfV .len [.loc lt]) H _ _
    rw [wv_len_loc GT.top]
    show Wp (bfV .len [.loc l]) H _ _
    rw [wv_len_loc G.top, ll, tlen, go_ne, decide_eq_true rfl]
    exact ⟨rfl, rfl⟩
  rintro _ rfl
  rw [wps_cons]
  exact ist_loop hS og G GT fun a b => ⟨rfl, rfl⟩
/-! a cell in a list of cells -/
theorem dats_of {α : Type} {f : Val → Option PyData} {v : α → Val} {gd : α → PyData} (ks : List α) (h : ∀ k ∈ ks, f (v k) = some (gd k)) : dats f (ks.map v) = some (ks.map gd) := by
  induction ks with
  | nil => rfl
  | cons k ks ih =>
    show (match f (v k), dats f (ks.map v) with | some d, some ds => some (d :: ds) | _, _ => none) = _
    rw [h k (.head _), ih (fun k hk => h k (.tail _ hk))]; rfl
theorem in_list {ld : Nat} {ks : List Key} {k : Key} (h : H[ld]? = some (.list (ks.map valOf))) : cmpV .isin (valOf k) (.loc ld) H = some (decide (k ∈ ks)) := by
  have e : cmpV .isin (valOf k) (.loc ld) H = inV (valOf k) (.loc ld) H := rfl
  have dk : ∀ q : Key, dataOf H deep (valOf q) = some (.tuple [.int q.1, .int q.2]) := fun q => rfl
  have ds : dats (dataOf H deep) (ks.map valOf) = some (ks.map fun q => PyData.tuple [.int q.1, .int q.2]) := by
    exact dats_of ks (fun k _ => dk k)
  rw [e]
  unfold inV
  simp only [h]
  unfold inList
  rw [dk, ds]
  show some (List.any (ks.map fun q => PyData.tuple [.int q.1, .int q.2]) fun y => PyData.eqv y (.tuple [.int k.1, .int k.2])) = _
  congr 1
  rw [Bool.eq_iff_iff, List.any_eq_true, decide_eq_true_eq]
  have ev : ∀ q : Key, PyData.eqv (.tuple [.int q.1, .int q.2]) (.tuple [.int k.1, .int k.2]) = (q.1 == k.1 && (q.2 == k.2 && true)) := fun q => rfl
  constructor
  · rintro ⟨y, hy, h1⟩
    obtain ⟨q, hq, rfl⟩ := List.mem_map.mp hy
    rw [ev] at h1
    simp at h1
    rw [← Prod.ext h1.1 h1.2]; exact hq
  · intro hk
    refine ⟨_, List.mem_map.mpr ⟨k, hk, rfl⟩, ?_⟩
    rw [ev]; simp
theorem Lst.non_ {ks : List Key} {o : Option Int} {q : Key} (L : Lst F ks o) (h : F q = none) : Lst F (ks ++ [q]) o := by
  refine ⟨fun e k hk => ?_, fun l e => ?_⟩
  · rcases List.mem_append.mp hk with hk | hk
    · exact L.non e k hk
    · cases List.mem_singleton.mp hk; exact h
  · obtain ⟨⟨k, hk, hf⟩, hall⟩ := L.one l e
    refine ⟨⟨k, List.mem_append.mpr (.inl hk), hf⟩, fun k' hk' f hf' => ?_⟩
    rcases List.mem_append.mp hk' with hk' | hk'
    · exact hall k' hk' f hf'
    · cases List.mem_singleton.mp hk'; rw [h] at hf'; cases hf'
theorem Lst.less {ks : List Key} {o : Option Int} {q : Key} {f : Int} (L : Lst F ks o) (h : F q = some f) (hl : ∀ l, o = some l → f < l) : Lst F (ks ++ [q]) (some f) := by
  refine ⟨(fun e => nomatch e), fun l e => ?_⟩
  cases e
  refine ⟨⟨q, List.mem_append.mpr (.inr (List.mem_singleton.mpr rfl)), h⟩, fun k' hk' f' hf' => ?_⟩
  rcases List.mem_append.mp hk' with hk' | hk'
  · cases o with
    | none => rw [L.non rfl k' hk'] at hf'; cases hf'
    | some l =>
      have := (L.one l rfl).2 k' hk' f' hf'
      have := hl l rfl
      omega
  · cases List.mem_singleton.mp hk'; rw [h] at hf'; cases hf'; exact Int.le_refl _
theorem Lst.stay {ks : List Key} {l f : Int} {q : Key} (L : Lst F ks (some l)) (h : F q = some f) (hl : l ≤ f) : Lst F (ks ++ [q]) (some l) := by
  refine ⟨(fun e => nomatch e), fun l' e => ?_⟩
  cases e
  obtain ⟨⟨k, hk, hf⟩, hall⟩ := L.one l rfl
  refine ⟨⟨k, List.mem_append.mpr (.inl hk), hf⟩, fun k' hk' f' hf' => ?_⟩
  rcases List.mem_append.mp hk' with hk' | hk'
  · exact hall k' hk' f' hf'
  · cases List.mem_singleton.mp hk'; rw [h] at hf'; cases hf'; exact hl
theorem mem_lbes {i j : Nat} {q : Key} : q ∈ (bes r c i j).filter (fun q => (hgt g r c q).isSome) ↔ (Adj ((i : Int), (j : Int)) q ∧ hgt g r c q ≠ none) := by
  rw [List.mem_filter, mem_bes]
  constructor
  · rintro ⟨⟨h1, _⟩, h2⟩
    exact ⟨h1, fun c => by rw [c] at h2; cases h2⟩
  · rintro ⟨h1, h2⟩
    cases e : hgt g r c q with
    | none => exact absurd e h2
    | some y => exact ⟨⟨h1, hgt_in e⟩, rfl⟩
/- one cell beside -/
theorem due_one {ks : List Key} {ol : Option Int} {i j : Nat} {x0 x1 x3 x4 : Val} {a7 : Option Val} (GT : GAt H lt bt st (table F r c)) (hi : i < r) (hj : j < c) (L : Lst F ks ol)
    (q : ∀ ol' a7, Lst F (ks ++ [((i : Int), (j : Int))]) ol' → QS [some x0, some x1, some (.loc lt), some x3, some x4, some (ov ol'), some (valOf ((i : Int), (j : Int))), a7] H) :
    wpSs T_07 Φ (.cons (.assign 7 (.sub (.sub (.var 2) (.sub (.var 6) (.int 0))) (.sub (.var 6) (.int 1)))) (.cons (.ite (.and (.cmp .isNot (.var 7) .none) (.or (.cmp .is (.var 5) .none) (.cmp .lt (.var 7) (.var 5)))) (.cons (.assign 5 (.var 7)) .nil) .nil) .nil)) [some x0, some x1, some (.loc lt), some x3, some x4, some (ov ol), some (valOf ((i : Int), (j : Int))), a7] H QS R NoX := by
  refine wps_asg (fun v K => v = ov (F ((i : Int), (j : Int))) ∧ H = K) ?_ ?_
  · show Wp (subV (.loc lt) (.int (i : Int))) H (fun v H' => Wp (subV v (.int (j : Int))) H' _ _) _
    rw [wv_at GT (table_row hi) (row_at hj)]; exact ⟨rfl, rfl⟩
  rintro v K ⟨rfl, rfl⟩
  cases hf : F ((i : Int), (j : Int)) with
  | none => exact q ol _ (L.non_ hf)
  | some f =>
    cases ol with
    | none => exact q (some f) _ (L.less hf (fun l e => nomatch e))
    | some l0 =>
      show brB (decide (f < l0)) (QS _ H) (QS _ H)
      refine brB_split (fun hlt => ?_) (fun hge => ?_)
      · exact q (some f) _ (L.less hf (fun l e => by cases e; exact hlt))
      · exact q (some l0) _ (L.stay hf (Int.not_lt.mp hge))
theorem due_loop {i j : Nat} {x1 x4 : Val} (hS : OkS r c) (og : OkG g r c) (G : GAt H l b s g) (GT : GAt H lt bt st (table F r c)) (hi : i < r) (hj : j < c)
    (q : ∀ K ol a6 a7, Ext H K → Lst F ((bes r c i j).filter (fun q => (hgt g r c q).isSome)) ol → QS [some (.loc l), some x1, some (.loc lt), some (valOf ((i : Int), (j : Int))), some x4, some (ov ol), a6, a7] K) :
    wpS T_07 (callF T_07 (d + 1)) (.each 6 (.call 16 (.cons (.var 0) (.cons (.var 3) .nil))) (.cons (.assign 7 (.sub (.sub (.var 2) (.sub (.var 6) (.int 0))) (.sub (.var 6) (.int 1)))) (.cons (.ite (.and (.cmp .isNot (.var 7) .none) (.or (.cmp .is (.var 5) .none) (.cmp .lt (.var 7) (.var 5)))) (.cons (.assign 5 (.var 7)) .nil) .nil) .nil))) [some (.loc l), some x1, some (.loc lt), some (valOf ((i : Int), (j : Int))), some x4, some .none, none, none] H QS R NoX := by
  apply wps_each
  show Wp (callF T_07 (d + 1) 16 [.loc l, .tup [.int (i : Int), .int (j : Int)]]) H _ _
  refine (l07_lbeside (d := d) hS og G hi hj).then ?_
  rintro v K1 ⟨m, rfl, e1, hm⟩
  have bin : ∀ q ∈ (bes r c i j).filter (fun q => (hgt g r c q).isSome), inR r c q = true := fun q hq => (mem_bes.mp (List.mem_filter.mp hq).1).2
  generalize (bes r c i j).filter (fun q => (hgt g r c q).isSome) = bs at *
  have GT1 := GT.ext e1
  clear GT G og hS
  rw [getO_of (iter_list hm)]
  show WpS (eachL (chk (some m) (bs.map valOf)) (bind1 6) _ (bs.map valOf) _ _) _ _ _
  obtain ⟨I, hI⟩ := hide3 (fun (n : Nat) (Γ : Env') (K' : Hp) => ∃ ol a6 a7, Γ = [some (.loc l), some x1, some (.loc lt), some (valOf ((i : Int), (j : Int))), some x4, some (ov ol), a6, a7] ∧ K1 = K' ∧ Lst F (bs.take n) ol)
  refine wps_eachN I ((hI _ _ _).mpr ⟨none, none, none, rfl, rfl, (fun _ k hk => nomatch hk), (fun l e => nomatch e)⟩) ?_ ?_ ?_
  · intro Γ K' h
    obtain ⟨ol, a6, a7, rfl, rfl, L⟩ := (hI _ _ _).mp h
    rw [List.length_map, List.take_length] at L
    exact q _ ol a6 a7 e1 L
  · intro n Γ K' _ h
    obtain ⟨ol, a6, a7, _, rfl, _⟩ := (hI _ _ _).mp h
    exact chk_list hm
  · clear q
    intro n z Γ K' hz h
    obtain ⟨ol, a6, a7, rfl, rfl, L⟩ := (hI _ _ _).mp h
    obtain ⟨q, hq, rfl⟩ := map_get hz
    obtain ⟨i', j', rfl, hi', hj'⟩ := inR_nat (bin q (List.mem_of_getElem? hq))
    exact ⟨_, rfl, due_one GT1 hi' hj' L fun ol' a7 L' => (hI _ _ _).mpr ⟨ol', _, _, rfl, rfl, by rw [take_snoc hq]; exact L'⟩⟩
theorem l07_due {ld i j : Nat} {ks : List Key} {D : Key → Prop} (hS : OkS r c) (og : OkG g r c) (G : GAt H l b s g) (GT : GAt H lt bt st (table F r c)) (hd : H[ld]? = some (.list (ks.map valOf))) (lv : Lv (hgt g r c) D F) (hD : ∀ k, D k ↔ k ∈ ks) (hi : i < r) (hj : j < c) :
    Wp (callF T_07 (d + 2) 18 [.loc l, .loc ld, .loc lt, .tup [.int (i : Int), .int (j : Int)]]) H (fun v H' => v = ov (F ((i : Int), (j : Int))) ∧ Ext H H') NoE := by
  obtain ⟨w, x, hw, hx, hcase⟩ := hgt_at og hi hj
  rw [wp_call (g := f18_07) rfl rfl, f18_07]
  refine wps_asg (fun v K => v = x ∧ H = K) ?_ ?_
  · show Wp (subV (.loc l) (.int (i : Int))) H (fun v H' => Wp (subV v (.int (j : Int))) H' _ _) _
    rw [wv_at G hw hx]; exact ⟨rfl, rfl⟩
  rintro v K ⟨rfl, rfl⟩
  rcases hcase with ⟨rfl, hn⟩ | ⟨a, rfl, _, ha⟩
  · show (Val.none = _ ∧ Ext H H)
    rw [lv.stone hn]; exact ⟨rfl, Ext.refl _⟩
  have inl : cmpV .isin (.tup [.int (i : Int), .int (j : Int)]) (.loc ld) H = some (decide (((i : Int), (j : Int)) ∈ ks)) := in_list (k := ((i : Int), (j : Int))) hd
  rw [wps_cons, wps_ite]
  refine wpE_then (Q := fun v K => v = .bool (decide (((i : Int), (j : Int)) ∈ ks)) ∧ H = K) ?_ ?_
  · show getO (cmpV .isin (.tup [.int (i : Int), .int (j : Int)]) (.loc ld) H) _
    rw [getO_of inl]; exact ⟨rfl, rfl⟩
  clear inl hd
  rintro v K ⟨rfl, rfl⟩
  rw [asBool_bool]
  refine brB_split (fun hk => ?_) (fun hk => ?_)
  · show (Val.int a = _ ∧ Ext H H)
    rw [lv.own ((hD _).mpr hk) ha]; exact ⟨rfl, Ext.refl _⟩
  refine wps_asg (fun v K' => v = .none ∧ H = K') ⟨rfl, rfl⟩ ?_
  rintro v K' ⟨rfl, rfl⟩
  rw [wps_cons]
  refine due_loop hS og G GT hi hj fun K ol a6 a7 e1 L => ?_
  have fin := lv.due ha (fun c => hk ((hD _).mp c)) (fun q => mem_lbes) L
  rw [fin]
  cases ol with
  | none => exact ⟨rfl, e1⟩
  | some l0 => exact ⟨rfl, e1⟩
end
end Mine.Pure

-- part L7S
namespace Mine.Pure
open PySem Pile
theorem all_self : ∀ ds : List PyData, (∀ d ∈ ds, PyData.eqv d d = true) → PyData.eqvAll ds ds = true
  | [], _ => rfl
  | d :: ds, h => by
    show (PyData.eqv d d && PyData.eqvAll ds ds) = true
    rw [h d (.head _), all_self ds fun x hx => h x (.tail _ hx)]; rfl
noncomputable def vd : Val → PyData
  | .int i => .int i
  | _ => .none
noncomputable def NV (v : Val) : Prop := v = .none ∨ ∃ n, v = .int n
theorem vd_self {v : Val} (h : NV v) : PyData.eqv (vd v) (vd v) = true := by
  rcases h with rfl | ⟨n, rfl⟩
  · rfl
  · show (n == n) = true; simp
section
variable {T : Tab} {Φ : Funs} {Γ : Env'} {H K : Hp} {Q : Val → Hp → Prop} {E : Nat → Hp → Prop} {d : Nat} {QS : Env' → Hp → Prop} {R : Val → Hp → Prop} {ES : Nat → Env' → Hp → Prop} {l b s r c : Nat} {g : List (List Val)}
theorem vd_data {n : Nat} {v : Val} (h : NV v) : dataOf H n v = some (vd v) := by
  rcases h with rfl | ⟨i, rfl⟩
  · exact data_none n
  · exact data_int n i
theorem data_list {n l : Nat} {xs : List Val} (h : H[l]? = some (.list xs)) : dataOf H (n + 1) (.loc l) = (dats (dataOf H n) xs).map .list := by
  have : dataOf H (n + 1) (.loc l) = (match H[l]? with | some (.list xs) => (dats (dataOf H n) xs).map .list | _ => none) := rfl
  rw [this, h]
theorem data_row {n l : Nat} {w : List Val} (h : H[l]? = some (.list w)) (hw : ∀ v ∈ w, NV v) : dataOf H (n + 1) (.loc l) = some (.list (w.map vd)) := by
  rw [data_list h]
  have := dats_of (f := dataOf H n) (v := fun x => x) (gd := vd) w (fun v hv => vd_data (hw v hv))
  rw [List.map_id'] at this
  rw [this]; rfl
theorem data_grid (G : GAt H l b s g) (hg : ∀ w ∈ g, ∀ v ∈ w, NV v) : dataOf H deep (.loc l) = some (.list (g.map fun w => .list (w.map vd))) := by
  show dataOf H (5 + 1) (.loc l) = _
  rw [data_list G.top]
  have e : (List.range g.length).map (fun i => PyData.list (((g[i]?).getD []).map vd)) = g.map fun w => .list (w.map vd) := by
    refine List.ext_getElem? fun i => ?_
    rw [List.getElem?_map, List.getElem?_map]
    by_cases q : i < g.length
    · rw [List.getElem?_range q, List.getElem?_eq_getElem q]
      show some (PyData.list (((g[i]?).getD []).map vd)) = _
      rw [List.getElem?_eq_getElem q]; rfl
    · rw [List.getElem?_eq_none (by rw [List.length_range]; omega), List.getElem?_eq_none (by omega)]; rfl
  rw [dats_of (gd := fun i => PyData.list (((g[i]?).getD []).map vd)) (List.range g.length) (fun i hi => ?_), e]
  · rfl
  · have q := List.mem_range.mp hi
    have hw : g[i]? = some g[i] := List.getElem?_eq_getElem q
    rw [data_row (n := 4) (G.row i _ hw) (hg _ (List.getElem_mem q)), hw]; rfl
theorem eq_grids {l' b' s' : Nat} (G : GAt H l b s g) (G' : GAt H l' b' s' g) (hg : ∀ w ∈ g, ∀ v ∈ w, NV v) : pyEq H (.loc l) (.loc l') = some true := by
  unfold pyEq
  rw [data_grid G hg, data_grid G' hg]
  show some (PyData.eqvAll _ _) = _
  rw [all_self]
  intro x hx
  obtain ⟨w, hw, rfl⟩ := List.mem_map.mp hx
  show PyData.eqvAll _ _ = true
  refine all_self _ fun y hy => ?_
  obtain ⟨v, hv, rfl⟩ := List.mem_map.mp hy
  exact vd_self (hg w hw v hv)
theorem OkG.nv (og : OkG g r c) : ∀ w ∈ g, ∀ v ∈ w, NV v := fun w hw v hv => by
  obtain ⟨i, hi⟩ := List.mem_iff_getElem?.mp hw
  rcases (og.row i w hi).2 v hv with h | ⟨n, h, _⟩
  · exact .inl h
  · exact .inr ⟨n, h⟩
theorem ov_nv (x : Option Int) : NV (ov x) := by
  cases x with
  | none => exact .inl rfl
  | some n => exact .inr ⟨n, rfl⟩
theorem table_nv (F : Key → Option Int) (r c : Nat) : ∀ w ∈ table F r c, ∀ v ∈ w, NV v := fun w hw v hv => by
  obtain ⟨i, _, rfl⟩ := List.mem_map.mp hw
  obtain ⟨j, _, rfl⟩ := List.mem_map.mp hv
  exact ov_nv _
theorem eq_cells {a a' : Nat} {ks : List Key} (ha : H[a]? = some (.list (ks.map valOf))) (hb : H[a']? = some (.list (ks.map valOf))) : pyEq H (.loc a) (.loc a') = some true := by
  refine eq_lists (ds := ks.map fun q => PyData.tuple [.int q.1, .int q.2]) ha hb (dats_of ks fun k _ => rfl) ?_
  show PyData.eqvAll _ _ = true
  refine all_self _ fun x hx => ?_
  obtain ⟨k, _, rfl⟩ := List.mem_map.mp hx
  show (k.1 == k.1 && (k.2 == k.2 && true)) = true
  simp
theorem ov_same (x : Option Int) (k : Bool → Prop) : getO (cmpV .ne (ov x) (ov x) H) k = k false := by
  rcases ov_case x with ⟨_, h⟩ | ⟨n, _, h⟩
  · rw [h]; rfl
  · rw [h, go_ne, decide_eq_true rfl]; rfl
theorem hgt_pos (og : OkG g r c) {k : Key} {a : Int} (h : hgt g r c k = some a) : 0 ≤ a := by
  obtain ⟨i, j, rfl, hi, hj⟩ := inR_nat (hgt_in h)
  obtain ⟨w, x, _, _, hcase⟩ := hgt_at og hi hj
  rcases hcase with ⟨_, e⟩ | ⟨n, _, h0, e⟩
  · rw [e] at h; cases h
  · rw [e] at h; cases h; exact h0
/- the drains of the land are those of the list -/
theorem drains_are {es : List (Key × Val)} {pd : Key → Bool} (h : ∀ k, inD es (valOf k) = true ↔ k ∈ (keys r c).filter pd) : (cells r c).filter (inD es) = ((keys r c).filter pd).map valOf := by
  rw [← keys_cells, List.filter_map]
  congr 1
  refine List.filter_congr fun k hk => ?_
  rw [Bool.eq_iff_iff]
  show inD es (valOf k) = true ↔ _
  rw [h k, List.mem_filter]
  exact ⟨fun x => x.2, fun x => ⟨hk, x⟩⟩
theorem mem_valOf {k : Key} {ks : List Key} : valOf k ∈ ks.map valOf ↔ k ∈ ks := by
  constructor
  · intro h
    obtain ⟨q, hq, e⟩ := List.mem_map.mp h
    rw [← valOf_inj e]; exact hq
  · exact fun h => List.mem_map.mpr ⟨k, h, rfl⟩
/- what the law knows of its land -/
structure Kn (H : Hp) (r c : Nat) (g : List (List Val)) (ks : List Key) (l m o : Nat) : Prop where
  s : OkS r c
  n : r * c ≤ 132
  og : OkG g r c
  G : GAt H l (l + 2) 2 g
  m : H[m]? = some (.list (ks.map valOf))
  L : ∃ lg b' ls es, LandAt H o r c lg b' 1 ls g es ∧ (cells r c).filter (inD es) = ks.map valOf
  d : ∀ k ∈ ks, ∃ a, hgt g r c k = some a
theorem Kn.ext {H' : Hp} {ks : List Key} {m o : Nat} (x : Kn H r c g ks l m o) (e : Ext H H') : Kn H' r c g ks l m o := by
  obtain ⟨lg, b', ls, es, L, q⟩ := x.L
  exact ⟨x.s, x.n, x.og, x.G.ext e, e.get x.m, ⟨lg, b', ls, es, L.ext e, q⟩, x.d⟩
theorem Kn.levels {ks : List Key} {m o : Nat} (x : Kn H r c g ks l m o) : Wp (callF T_07 (d + 6) 7 [.loc o]) H (fun v H' => ∃ m b' F, v = .loc m ∧ Ext H H' ∧ H.length ≤ b' ∧ GAt H' m b' 1 (table F r c) ∧ Lv (hgt g r c) (fun k => k ∈ ks) F) NoE := by
  obtain ⟨lg, b', ls, es, L, q⟩ := x.L
  have hS := x.s
  unfold OkS at hS
  have hD : (fun k => valOf k ∈ (cells r c).filter (inD es)) = (fun k => k ∈ ks) := funext fun k => propext (by rw [q]; exact mem_valOf)
  refine (l07_levels (d := d) x.og hS.2.1 hS.2.2.2 x.n L (fun k hk => x.d k (mem_valOf.mp (q ▸ hk)))).then ?_
  rw [hD]
  rintro v K ⟨m, b', F, rfl, e, h1, _, _, G, lv⟩
  exact ⟨m, b', F, rfl, e, h1, G, lv⟩
section
variable {ks : List Key} {m o lt bt : Nat} {F : Key → Option Int} {ns : List Int} {a6 a7 : Option Val}
theorem law_chk (x : Kn H r c g ks l m o) (GT : GAt H lt bt 1 (table F r c)) (lv : Lv (hgt g r c) (fun k => k ∈ ks) F) : wpE T_07 (callF T_07 (d + 7)) (.or (.not (.call 17 (.cons (.var 4) (.cons (.var 1) .nil)))) (.and (.cmp .lt (.var 5) (.int 200)) (.cmp .ne (.call 7 (.cons (.var 3) .nil)) (.var 4)))) [some (.script ns), some (.loc l), some (.loc m), some (.loc o), some (.loc lt), some (.int ((r : Int) * c)), none, none] H (fun v K => v = .bool false ∧ Ext H K) NoE := by
  have hmany : (r : Int) * c < 200 := by have := x.n; rw [← Int.natCast_mul]; omega
  refine w_or (P := fun K => H = K) (w_not (b := true) ?_) ?_
  · show Wp (callF T_07 (d + 7) 17 [.loc lt, .loc l]) H _ _
    refine (l07_istable (d := d + 5) x.s x.og x.G GT).then ?_
    rintro v K ⟨rfl, rfl⟩
    exact ⟨rfl, rfl⟩
  rintro K rfl
  rw [wp_and, wp_cmp, wp_var, getV_of (v := .int ((r : Int) * c)) rfl, wp_int, go_lt, decide_eq_true hmany]
  show Wp (callF T_07 (d + 7) 7 [.loc o]) H _ _
  refine (x.levels (d := d + 1)).then ?_
  rintro v K2 ⟨lt2, bt2, F2, rfl, e6, _, GT2, lv2⟩
  have : F2 = F := funext fun k => lv2.uniq lv k
  rw [this] at GT2
  show getO (cmpV .ne (.loc lt2) (.loc lt) K2) _
  rw [getO_of (op_ne _ _ _ (eq_grids GT2 (GT.ext e6) (table_nv F r c)))]
  exact ⟨rfl, e6⟩
theorem law_one {i j : Nat} (x : Kn H r c g ks l m o) (GT : GAt H lt bt 1 (table F r c)) (lv : Lv (hgt g r c) (fun k => k ∈ ks) F) (hi : i < r) (hj : j < c) {x0 x3 x5 : Val} : wpE T_07 (callF T_07 (d + 7)) (.cmp .ne (.sub (.sub (.var 4) (.var 6)) (.var 7)) (.call 18 (.cons (.var 1) (.cons (.var 2) (.cons (.var 4) (.cons (.tup (.cons (.var 6) (.cons (.var 7) .nil))) .nil)))))) [some x0, some (.loc l), some (.loc m), some x3, some (.loc lt), some x5, some (.int (i : Int)), some (.int (j : Int))] H (fun v K => v = .bool false ∧ Ext H K) NoE := by
  show Wp (subV (.loc lt) (.int (i : Int))) H (fun v H' => Wp (subV v (.int (j : Int))) H' _ _) _
  rw [wv_at GT (table_row hi) (row_at hj)]
  show Wp (callF T_07 (d + 7) 18 [.loc l, .loc m, .loc lt, .tup [.int (i : Int), .int (j : Int)]]) H _ _
  refine (l07_due (d := d + 5) x.s x.og x.G GT x.m lv (fun k => Iff.rfl) hi hj).then ?_
  rintro v K3 ⟨rfl, e7⟩
  show getO (cmpV .ne _ _ K3) _
  rw [ov_same]
  exact ⟨rfl, e7⟩
theorem law_loops (x : Kn H r c g ks l m o) (GT : GAt H lt bt 1 (table F r c)) (lv : Lv (hgt g r c) (fun k => k ∈ ks) F) {x0 x3 x5 : Val} (q : ∀ K a6 a7, Ext H K → QS [some x0, some (.loc l), some (.loc m), some x3, some (.loc lt), some x5, a6, a7] K) :
    wpS T_07 (callF T_07 (d + 7)) (.each 6 (.bf .range (.cons (.bf .len (.cons (.var 1) .nil)) .nil)) (.cons (.each 7 (.bf .range (.cons (.bf .len (.cons (.sub (.var 1) (.int 0)) .nil)) .nil)) (.cons (.ite (.cmp .ne (.sub (.sub (.var 4) (.var 6)) (.var 7)) (.call 18 (.cons (.var 1) (.cons (.var 2) (.cons (.var 4) (.cons (.tup (.cons (.var 6) (.cons (.var 7) .nil))) .nil)))))) (.cons (.ret (.some (.bool false))) .nil) .nil) .nil)) .nil)) [some x0, some (.loc l), some (.loc m), some x3, some (.loc lt), some x5, none, none] H QS R NoX := by
  have hS := x.s
  unfold OkS at hS
  have ll := len_rows x.og (b := l + 2) (s := 2) (l := l)
  obtain ⟨I, hI⟩ := hide3 (fun (i : Nat) (Γ : Env') (K : Hp) => Ext H K ∧ ∃ a6 a7, Γ = [some x0, some (.loc l), some (.loc m), some x3, some (.loc lt), some x5, a6, a7])
  refine wps_eachR (n := r) I ?_ ⟨by omega, by omega⟩ ((hI _ _ _).mpr ⟨Ext.refl _, none, none, rfl⟩) ?_ ?_
  · show Wp (bfV .len [.loc l]) H _ _
    rw [wv_len_loc x.G.top, ll]; exact ⟨rfl, rfl⟩
  · clear q
    intro i Γ K hi h
    obtain ⟨eK, a6, a7, rfl⟩ := (hI _ _ _).mp h
    have hi' : i < r := by omega
    rw [wps_cons]
    obtain ⟨J, hJ⟩ := hide3 (fun (j : Nat) (Γ : Env') (K : Hp) => Ext H K ∧ ∃ a7, Γ = [some x0, some (.loc l), some (.loc m), some x3, some (.loc lt), some x5, some (.int (i : Int)), a7])
    refine wps_eachR (n := c) J ?_ ⟨by omega, by omega⟩ ((hJ _ _ _).mpr ⟨eK, _, rfl⟩) ?_ ?_
    · show Wp (subV (.loc l) (.int 0)) K (fun v H' => Wp (bfV .len [v]) H' _ _) _
      rw [wv_list0 x.s x.og (x.G.ext eK)]; exact ⟨rfl, rfl⟩
    · intro j Γ K2 hj h
      obtain ⟨eK2, a7, rfl⟩ := (hJ _ _ _).mp h
      have hj' : j < c := by omega
      exact wps_no _ (law_one (x.ext eK2) (GT.ext eK2) lv hi' hj') fun K3 e7 => (hJ _ _ _).mpr ⟨eK2.trans e7, _, rfl⟩
    · intro Γ K h
      obtain ⟨eK, a7, rfl⟩ := (hJ _ _ _).mp h
      exact (hI _ _ _).mpr ⟨eK, _, _, rfl⟩
  · intro Γ K h
    obtain ⟨eK, a6, a7, rfl⟩ := (hI _ _ _).mp h
    exact q K a6 a7 eK
theorem law_same (x : Kn H r c g ks l m o) {x0 x4 x5 : Val} : wpE T_07 (callF T_07 (d + 7)) (.or (.cmp .ne (.umeth (.var 3) 5 .nil) (.var 1)) (.cmp .ne (.umeth (.var 3) 4 .nil) (.var 2))) [some x0, some (.loc l), some (.loc m), some (.loc o), some x4, some x5, a6, a7] H (fun v K => v = .bool false ∧ Ext H K) NoE := by
  have hS := x.s
  unfold OkS at hS
  obtain ⟨lg, b', ls, es, L, q⟩ := x.L
  obtain ⟨fs, f0, _⟩ := L.inst
  show Wp (umethOf T_07 (.loc o) 5) H _ _
  rw [wu_meth3 f0 (show T_07.meth 5 5 = some 25 from rfl)]
  refine (l07_heights (d := d + 6) x.og hS.2.1 L).then ?_
  rintro v K ⟨rfl, e8, G8⟩
  show getO (cmpV .ne _ (.loc l) K) _
  rw [getO_of (op_ne _ _ _ (eq_grids G8 (x.G.ext e8) x.og.nv))]
  have L8 := L.ext e8
  obtain ⟨fs8, f8, _⟩ := L8.inst
  show Wp (umethOf T_07 (.loc o) 4) K _ _
  rw [wu_meth3 f8 (show T_07.meth 5 4 = some 24 from rfl)]
  refine (l07_drains (d := d + 5) hS.2.1 hS.2.2.2 L8).then ?_
  rintro v K2 ⟨m2, rfl, _, e9, hm9⟩
  rw [q] at hm9
  show getO (cmpV .ne _ (.loc m) K2) _
  rw [getO_of (op_ne _ _ _ (eq_cells hm9 (e9.get (e8.get x.m))))]
  exact ⟨rfl, e8.trans e9⟩
theorem law_last (x : Kn H r c g ks l m o) {x0 x1 x2 x4 : Val} : wpE T_07 (callF T_07 (d + 7)) (.or (.cmp .gt (.var 5) (.int 200)) (.cmp .ne (.sub (.sub (.call 7 (.cons (.var 3) .nil)) (.int 0)) (.int 0)) (.neg (.int 1)))) [some x0, some x1, some x2, some (.loc o), some x4, some (.int ((r : Int) * c)), a6, a7] H (fun v _ => v = .bool true) NoE := by
  have hS := x.s
  unfold OkS at hS
  have hmany : ¬ (200 < (r : Int) * c) := by have := x.n; rw [← Int.natCast_mul]; omega
  show brB (decide (200 < (r : Int) * c)) _ _
  rw [brB_neg hmany]
  show Wp (callF T_07 (d + 7) 7 [.loc o]) H _ _
  refine (x.levels (d := d + 1)).then ?_
  rintro v K2 ⟨lt2, bt2, F2, rfl, e9, _, GT2, lv2⟩
  have r02 : (table F2 r c)[0]? = some ((List.range c).map fun (j : Nat) => ov (F2 (((0 : Nat) : Int), (j : Int)))) := table_row (by omega)
  have x02 : ((List.range c).map fun (j : Nat) => ov (F2 (((0 : Nat) : Int), (j : Int))))[0]? = some (ov (F2 (((0 : Nat) : Int), ((0 : Nat) : Int)))) := row_at (by omega)
  show Wp (subV (.loc lt2) (.int ((0 : Nat) : Int))) K2 (fun v H' => Wp (subV v (.int ((0 : Nat) : Int))) H' _ _) _
  rw [wv_at GT2 r02 x02]
  refine Wp.of_eq (a := .int (-1)) (H' := K2) rfl ?_
  rcases ov_case (F2 (((0 : Nat) : Int), ((0 : Nat) : Int))) with ⟨_, h⟩ | ⟨f, hf, h⟩
  · rw [h]; rfl
  · rw [h, go_ne]
    obtain ⟨a, ha, hle⟩ := (lv2.snd _ _ hf).hi
    have := hgt_pos x.og ha
    rw [decide_eq_false (show ¬ f = -1 by omega)]; rfl
theorem law_end {K : Hp} (x : Kn H r c g ks l m o) (e : Ext H K) (hb : H.length ≤ bt) (GT : GAt K lt bt 1 (table F r c)) {x0 : Val} :
    wpSs T_07 (callF T_07 (d + 7)) (.cons (.setitem (.sub (.var 4) (.int 0)) (.int 0) (.neg (.int 1))) (.cons (.ite (.or (.cmp .ne (.umeth (.var 3) 5 .nil) (.var 1)) (.cmp .ne (.umeth (.var 3) 4 .nil) (.var 2))) (.cons (.ret (.some (.bool false))) .nil) .nil) (.cons (.ret (.some (.or (.cmp .gt (.var 5) (.int 200)) (.cmp .ne (.sub (.sub (.call 7 (.cons (.var 3) .nil)) (.int 0)) (.int 0)) (.neg (.int 1)))))) .nil))) [some x0, some (.loc l), some (.loc m), some (.loc o), some (.loc lt), some (.int ((r : Int) * c)), a6, a7] K QS (fun v _ => v = .bool true) NoX := by
  have hS := x.s
  unfold OkS at hS
  have r0 : (table F r c)[0]? = some ((List.range c).map fun (j : Nat) => ov (F (((0 : Nat) : Int), (j : Int)))) := table_row (by omega)
  rw [wps_cons, wps_setitem]
  show Wp (evalE T_07 (callF T_07 (d + 7)) (.neg (.int 1)) _) K _ _
  refine Wp.of_eq (a := .int (-1)) (H' := K) rfl ?_
  show Wp (subV (.loc lt) (.int ((0 : Nat) : Int))) K _ _
  rw [ws_eq3 GT.top (GT.item (by rw [table_len]; omega))]
  show Wp (setitemV (.loc (bt + 1 * 0)) (.int 0) (.int (-1))) K _ _
  rw [wa_setitem3 (GT.row 0 _ r0) (by omega) (by rw [rlen]; omega)]
  have x := x.ext (e.set (l := bt + 1 * 0) hb (.list (((List.range c).map fun (j : Nat) => ov (F (((0 : Nat) : Int), (j : Int)))).set (Int.toNat 0) (.int (-1)))))
  refine wps_no _ (law_same x) fun K2 e2 => ?_
  exact wpE_then (law_last (x.ext e2)) fun v H' h => h
end
theorem law_07' (ns : List Int) (hlen : ns.length ≤ 63) : Wp (callF T_07 (d + 8) 19 [.script ns]) H (fun v _ => v = .bool true) NoE := by
  rw [wp_call (g := f19_07) rfl rfl, f19_07]
  refine wps_asg _ (l07_grid (d := d + 4) ns hlen) ?_
  rintro _ H1 ⟨r, c, g, l, rfl, hS, hrc, og, G⟩
  refine wps_asg _ (l07_ldrains (d := d + 5) ns hS og G) ?_
  rintro _ H2 ⟨m, n, e, rfl, _, e2, hm⟩
  have G := G.ext e2
  have hks : ∀ k ∈ (keys r c).filter (dpick g r c n e), ∃ a, hgt g r c k = some a := fun k hk => by
    have := (List.mem_filter.mp hk).2
    unfold dpick at this
    cases ha : hgt g r c k with
    | none => rw [ha] at this; cases this
    | some a => exact ⟨a, rfl⟩
  have kl : ((keys r c).filter (dpick g r c n e)).length < 1000 := by
    have := List.length_filter_le (dpick g r c n e) (keys r c)
    rw [keys_len] at this; omega
  refine wps_asg _ (l07_land (d := d + 2) hS og G hm hks kl) ?_
  rintro _ H3 ⟨o, lg, b', ls, es, rfl, e3, L, hin⟩
  have x : Kn H3 r c g ((keys r c).filter (dpick g r c n e)) l m o := ⟨hS, hrc, og, G.ext e3, e3.get hm, ⟨lg, b', ls, es, L, drains_are hin⟩, hks⟩
  clear hks kl hin L hm G e2 e3
  generalize (keys r c).filter (dpick g r c n e) = ks at *
  refine wps_asg _ (x.levels (d := d + 1)) ?_
  rintro _ H4 ⟨lt, bt, F, rfl, e4, hbt, GT, lv⟩
  have x4 := x.ext e4
  have ll := len_rows og (b := l + 2) (s := 2) (l := l)
  refine wps_asg (fun v K => v = .int ((r : Int) * c) ∧ H4 = K) ?_ ?_
  · show Wp (bfV .len [.loc l]) H4 _ _
    rw [wv_len_loc x4.G.top, ll]
    show Wp (subV (.loc l) (.int 0)) H4 (fun v H' => Wp (bfV .len [v]) H' _ _) _
    rw [wv_list0 hS og x4.G]
    unfold OkS at hS
    exact ⟨by rw [show small (r : Int) = true by unfold small; simp; omega]; rfl, rfl, rfl⟩
  rintro _ K ⟨rfl, rfl⟩
  refine wps_no _ (law_chk x4 GT lv) fun H5 e5 => ?_
  rw [wps_cons]
  refine law_loops (x4.ext e5) (GT.ext e5) lv fun H6 a6 a7 e6 => ?_
  exact law_end x ((e4.trans e5).trans e6) hbt ((GT.ext e5).ext e6)
end
theorem law_07 (ns : List Int) (hlen : ns.length ≤ 63) : ∃ H', callF T_07 20 19 [.script ns] [] = .ok (.bool true) H' := by
  obtain ⟨v, H', e, rfl⟩ := (law_07' (d := 12) (H := []) ns hlen).get
  exact ⟨H', e⟩
end Mine.Pure

-- part END
namespace Mine
open PySem PySem.W PySem.Calls
noncomputable def headAll (t : Addr → Option Obj) (N : Names) (T : Tab) (cls : List Value) (attrs : List Str) (fns : List Addr) (nss : List (List Str)) : Bool :=
  headOk t N T cls fns nss && clssAt t N T attrs fns 0 cls && attrsOk N attrs && (t sysModules).isSome
noncomputable def fns_07 : List Addr := [28, 35, 40, 47, 115, 122, 256, 261, 268, 275, 282, 289, 296, 301, 308, 313, 318, 325, 332, 339, 134, 141, 148, 169, 181, 186, 207, 214, 221, 228, 235, 242]
noncomputable def q_07 : Program := view PySem.Challenge.pw_uf020016_07 [PySem.Challenge.pw_uf020016_07.main.body.length - 1]
noncomputable def loose_07 : List Str := (PySem.Challenge.pw_uf020016_07.main.scope.names.map (·.1)).filter (· != "law")
set_option maxRecDepth 100000
set_option maxHeartbeats 0
theorem left_07 : LeftO PySem.Challenge.pw_uf020016_07 q_07 loose_07 (fun s => recOk [] s) (fun s => headAll s.heap.get? N_07 T_07 [.ref 57, .ref 70, .ref 82, .ref 94, .ref 106, .ref 189, .ref 245, .type "ValueError"] ["rows", "columns", "grid", "sinks", "heap"] fns_07 V_07) (fun _ => true) 9000 true := by
  refine left_of (M := 8000) (by kernel_rfl) (by kernel_rfl) (fun s => by kernel_rfl) (by kernel_rfl) ?_
  intro w os
  rw [PySem.W.Fast.te4187177175401517315]
  kernel_rfl
theorem said_07 : PySem.Challenge.rw_uf020016_07.wellSaid = true := by
  rw [PySem.W.Fast.te9446332074065402090]
  kernel_rfl
noncomputable def def_07 : DefRec × List (Str × Expr) := (defOf q_07 "law").get (by kernel_rfl)
theorem hdef_07 : defOf q_07 "law" = some (def_07.1, def_07.2) := by kernel_rfl
theorem hp_07 : PySem.Challenge.pw_uf020016_07.theDef "law" = some (def_07.1.params, def_07.1.body, def_07.1.scope) := by kernel_rfl
theorem hk_07 : kwWritten? def_07.1.params.kwonlyargs def_07.1.params.kw_defaults = some def_07.2 := by kernel_rfl
end Mine
open PySem PySem.W PySem.W.X PySem.W.ZRun PyProof.Rows
set_option maxRecDepth 100000 in
set_option maxHeartbeats 0 in
theorem PySem.Challenge.cw_uf020016_07_holds : PySem.Challenge.rw_uf020016_07.Holds := by
  refine holds_law Mine.said_07 fun said => ?_
  refine holds_openX (q := Mine.q_07) (loose := Mine.loose_07) (Xt := fun s => recOk [] s) (XP := fun _ _ => True) (N := 9000) Mine.left_07 (fun _ _ => trivial) (fun _ _ _ h _ => h) Mine.hdef_07 Mine.hp_07 Mine.hk_07 (fun s e => recFacts_of e) rfl said (by decide +kernel) ⟨rfl, rfl, rfl, rfl, rfl, by decide +kernel⟩ ?hw ?hc
  case hw => exact ⟨[.list []], by decide +kernel, by decide +kernel⟩
  intro w s₀ s₁ mg mb G y fa o pm cd doc dV kV ho hd hcd hD hmg hg args vals as L hpre hlay hrd hwl hlo
  refine Ground.open G ?_
  intro T B D TE TW
  wrow_args hpre hlay hrd hwl hlo
  have y' : Mine.headAll s₀.heap.get? Mine.N_07 Mine.T_07 [.ref 57, .ref 70, .ref 82, .ref 94, .ref 106, .ref 189, .ref 245, .type "ValueError"] ["rows", "columns", "grid", "sinks", "heap"] Mine.fns_07 Mine.V_07 = true := y
  unfold Mine.headAll at y'
  simp only [Bool.and_eq_true] at y'
  obtain ⟨⟨⟨y1, y2⟩, y3⟩, y4⟩ := y'
  refine Mine.finish (t := s₀.heap.get?) (N := Mine.N_07) (T := Mine.T_07) (cls := [.ref 57, .ref 70, .ref 82, .ref 94, .ref 106, .ref 189, .ref 245, .type "ValueError"]) (attrs := ["rows", "columns", "grid", "sinks", "heap"]) (fns := Mine.fns_07) (nss := Mine.V_07) (k := 19) (d := 20) L.keeps T.g T.b T.builtins T.nolimit y1 y2 y3 y4 (script_obj L (by assumption)) (by assumption) (by omega) hmg rfl ⟨rfl, by decide, by decide⟩ (Mine.Pure.law_07 _ (by omega)) ?_
  intro s' hk ho' hg'
  exact ⟨.inl ⟨_, .bool true, [], rfl, raisesW_false (by wrow_none_raised), .bool true, by wrow_post, fun _ => ⟨List.nodup_nil, fun a ha => by cases ha⟩⟩, .of_keep hk, ho', .of_eq (hg'.trans hg)⟩
