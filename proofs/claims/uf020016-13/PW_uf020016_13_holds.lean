import PyProof.Rows.All
import PyProof.StrBlock
import PyProof.StrBlockI
import PyProof.StrBlockL
import PyProof.P3Statements
import PyProof.RaisesMany
import PyProof.ExcArgsOwn
import KE.KIsNot
import PyProof.DictRoadsH
import PyProof.DictKinds
import PyProof.InstLoad
import PyProof.ObjNew
import PyProof.Cells
import PyProof.WalksMore
import PyProof.Calls
import PyProof.DefCall
import PyProof.ListMulRoad
import PyProof.Rows.ListMul
import PyProof.ExcClass2
import PyProof.ExcBaseAll.ValueError
import PyProof.TupleKey
import PyProof.IsiSeqPairs
import PyProof.IsiNone
import PyProof.TupleOfSeq
import PyProof.ListRange
import PyProof.WalkInts
import PyProof.CallStr
import PyProof.FitsInt
import PyProof.Rows.StrJoin2
import KE.KIntText
import KE.IntTextLaws
import PyProof.Rows.StrNews
import PyProof.Rows.StrItems
import PyProof.Rows.StrSplitAre
import PyProof.CallRoads
import PyProof.RulesTry
import PyProof.StrWalks
import PyProof.RulesDelMore
import PyProof.CompFree
import PyProof.CompUse
import PyProof.LetGo
import PyProof.AssignAttr
import PyProof.InstStoreFacts
import PyProof.SliceMore
import PyProof.StrBlockH
import PyProof.WalksPairs
import PyProof.ZipIter
import PyProof.EnumFor
import PyProof.ListIndex
import PyProof.RulesAs
import Open.FastRun
import PyProof.FitsReplace
import PyProof.StrLawsIn
import PyProof.StrLawsOcc
import Wide.All
import OpenK.AllK
import Wide.FinOn
import Lean
import PySem.Challenge.RW_uf020016_13
set_option Elab.async false
set_option autoImplicit false
set_option genSizeOfSpec false
set_option genSizeOf false
set_option backward.match.sparseCases false
set_option genInjectivity false
set_option tactic.hygienic false
set_option bootstrap.genMatcherCode false
set_option linter.all false
set_option linter.unusedSimpArgs false
-- part MLang
namespace Mine
theorem hideG {P : Prop} (h : ∀ G : Prop, (P → G) → G) : P := h P id
theorem no_some {α : Type} {a : α} {P : Prop} (h : (none : Option α) = some a) : P := nomatch h
theorem no_true {P : Prop} (h : false = true) : P := nomatch h
open PySem
noncomputable section
inductive Val where
  | none
  | bool (b : Bool)
  | int (i : Int)
  | str (s : Str)
  | tup (vs : List Val)
  | loc (l : Nat)
  | script (ns : List Int)
  | rng (n : Int)
  | exc (c : Nat)
noncomputable def sames (a b : List Val) : Bool := @decide (a = b) (Classical.propDecidable _)
theorem sames_eq (a b : List Val) (h : sames a b = true) : a = b := @of_decide_eq_true _ (Classical.propDecidable _) h
theorem sames_refl (a : List Val) : sames a a = true := @decide_eq_true _ (Classical.propDecidable _) rfl
noncomputable abbrev Key := Int × Int
inductive HObj where
  | list (xs : List Val)
  | dict (es : List (Key × Val))
  | inst (c : Nat) (fs : List (Nat × Val))
  | hid
noncomputable abbrev Hp := List HObj
inductive Res (α : Type) where
  | ok (a : α) (H : Hp)
  | exc (c : Nat) (H : Hp)
  | bad
theorem no_bad {α : Type} {a : α} {H : Hp} {P : Prop} (h : (Res.bad : Res α) = .ok a H) : P := nomatch h
theorem no_exc {α : Type} {a : α} {c : Nat} {H H' : Hp} {P : Prop} (h : (Res.exc c H' : Res α) = .ok a H) : P := nomatch h
noncomputable def M (α : Type) := Hp → Res α
namespace M
noncomputable def ret {α : Type} (a : α) : M α := fun H => .ok a H
noncomputable def bnd {α β : Type} (m : M α) (f : α → M β) : M β := fun H =>
  match m H with
  | .ok a H' => f a H'
  | .exc c H' => .exc c H'
  | .bad => .bad
noncomputable def bad {α : Type} : M α := fun _ => .bad
noncomputable def raise {α : Type} (c : Nat) : M α := fun H => .exc c H
noncomputable def ofOpt {α : Type} : Option α → M α
  | some a => ret a
  | none => bad
noncomputable def look {α : Type} (f : Hp → Option α) : M α := fun H =>
  match f H with
  | some a => .ok a H
  | none => .bad
noncomputable def quiet {α : Type} (m : M α) : M α := fun H =>
  match m H with
  | .exc _ _ => .bad
  | r => r
noncomputable def alloc (o : HObj) : M Val := fun H => .ok (.loc H.length) (H ++ [o])
noncomputable def put (l : Nat) (o : HObj) : M Unit := fun H => .ok () (H.set l o)
end M
theorem bnd_ok {α β : Type} {m : M α} {f : α → M β} {H H' : Hp} {a : α} (h : m H = .ok a H') : (m.bnd f) H = f a H' := by
  unfold M.bnd; rw [h]
theorem bnd_exc {α β : Type} {m : M α} {f : α → M β} {H H' : Hp} {c : Nat} (h : m H = .exc c H') : (m.bnd f) H = .exc c H' := by
  unfold M.bnd; rw [h]
theorem bnd_bad {α β : Type} {m : M α} {f : α → M β} {H : Hp} (h : m H = .bad) : (m.bnd f) H = .bad := by
  unfold M.bnd; rw [h]
inductive BOp where
  | add | sub | mul | fdiv | mod
inductive COp where
  | eq | ne | lt | le | gt | is | isin | notin
inductive Ty where
  | int | bool | str | tuple | list
  | cls (c : Nat)
inductive BF where
  | len | range | list | str | int | sortedSet
inductive BM where
  | append | join | split | rstrip
set_option genCtorIdx false in
mutual
inductive ME where
  | none
  | bool (b : Bool)
  | int (i : Int)
  | str (s : Str)
  | glob (k : Nat)
  | var (i : Nat)
  | bin (op : BOp) (a b : ME)
  | neg (a : ME)
  | not (a : ME)
  | and (a b : ME)
  | or (a b : ME)
  | cmp (op : COp) (a b : ME)
  | cmp2 (op1 op2 : COp) (a b c : ME)
  | sub (a i : ME)
  | slice (a : ME) (lo hi : MEo)
  | tup (es : MEs)
  | list (es : MEs)
  | dict
  | attr (a : ME) (n : Nat)
  | call (f : Nat) (es : MEs)
  | new (c : Nat) (es : MEs)
  | umeth (a : ME) (m : Nat) (es : MEs)
  | bf (f : BF) (es : MEs)
  | bm (a : ME) (m : BM) (es : MEs)
  | isinst (a : ME) (t : Ty)
  | comp (elt : ME) (it : ME) (cond : MEo)
inductive MEo where
  | none
  | some (e : ME)
inductive MEs where
  | nil
  | cons (e : ME) (es : MEs)
end
set_option genCtorIdx false in
mutual
inductive MS where
  | expr (e : ME)
  | assign (i : Nat) (e : ME)
  | setattr (o : ME) (n : Nat) (e : ME)
  | setitem (o i : ME) (e : ME)
  | ret (e : MEo)
  | ite (c : ME) (t f : MSs)
  | each (i : Nat) (it : ME) (body : MSs)
  | eachEnum (i j : Nat) (a : ME) (body : MSs)
  | raise (c : Nat) (msg : Str)
  | tryx (body : MSs) (hs : MHs)
inductive MSs where
  | nil
  | cons (s : MS) (ss : MSs)
inductive MHs where
  | nil
  | cons (c : Nat) (i : Option Nat) (body : MSs) (hs : MHs)
end
structure MFun where
  arity : Nat
  nvars : Nat
  body : MSs
structure Tab where
  funs : List MFun
  /-- of each class: its methods, by the name's number; number 0 is __init__ -/
  meths : List (List (Nat × Nat))
  /-- of each class: the classes that it stands under (itself too) -/
  subs : List (List Nat)
  globs : List Val
noncomputable def Tab.meth (T : Tab) (c m : Nat) : Option Nat := (T.meths[c]?).bind fun l => l.lookup m
noncomputable def Tab.sub (T : Tab) (c d : Nat) : Bool := ((T.subs[c]?).getD []).contains d
noncomputable def Tab.isExc (T : Tab) (c : Nat) : Bool := (T.meth c 0).isNone && decide (2 ≤ ((T.subs[c]?).getD []).length)
mutual
noncomputable def calmE (K : Nat → Bool) : ME → Bool
  | .none => true
  | .bool _ => true
  | .int _ => true
  | .str _ => true
  | .var _ => true
  | .bin _ a b => calmE K a && calmE K b
  | .cmp _ a b => calmE K a && calmE K b
  | .isinst a _ => calmE K a
  | .call f es => K f && calmEs K es
  | .bm a m es => (match m with | .rstrip => true | _ => false) && calmE K a && calmEs K es
  | _ => false
noncomputable def calmEs (K : Nat → Bool) : MEs → Bool
  | .nil => true
  | .cons e es => calmE K e && calmEs K es
end
noncomputable def calmO (K : Nat → Bool) : MEo → Bool
  | .none => true
  | .some e => calmE K e
mutual
noncomputable def calmS (K : Nat → Bool) : MS → Bool
  | .assign _ e => calmE K e
  | .ret e => calmO K e
  | .ite c t f => calmE K c && calmSs K t && calmSs K f
  | _ => false
noncomputable def calmSs (K : Nat → Bool) : MSs → Bool
  | .nil => true
  | .cons s ss => calmS K s && calmSs K ss
end
noncomputable def calmFn (T : Tab) (k : Nat) : Bool := match T.funs[k]? with
  | some f => calmSs (fun _ => false) f.body
  | none => false
noncomputable def lid : Nat := 16777216
noncomputable def dats (f : Val → Option PyData) : List Val → Option (List PyData)
  | [] => some []
  | x :: xs =>
    match f x, dats f xs with
    | some d, some ds => some (d :: ds)
    | _, _ => none
noncomputable def flatOf : Val → Option PyData
  | .none => some .none
  | .bool b => some (.bool b)
  | .int i => some (.int i)
  | .str s => if PyData.strOk s = true then some (.str s) else none
  | _ => none
noncomputable def dataOf (H : Hp) : Nat → Val → Option PyData
  | 0, v => flatOf v
  | n + 1, v =>
    match v with
    | .tup vs => (dats (dataOf H n) vs).map .tuple
    | .loc l =>
      match H[l]? with
      | some (.list xs) => (dats (dataOf H n) xs).map .list
      | _ => none
    | v => flatOf v
noncomputable def deep : Nat := 6
noncomputable def pyEq (H : Hp) (a b : Val) : Option Bool :=
  match dataOf H deep a, dataOf H deep b with
  | some x, some y => some (PyData.eqv x y)
  | _, _ => none
noncomputable def lts (e f : Val → Val → Option Bool) : List Val → List Val → Option Bool
  | [], [] => some false
  | [], _ :: _ => some true
  | _ :: _, [] => some false
  | x :: xs, y :: ys =>
    match e x y with
    | some true => lts e f xs ys
    | some false => f x y
    | none => none
noncomputable def vInt : Val → Option Int
  | .int i => some i
  | _ => none
noncomputable def vTup : Val → Option (List Val)
  | .tup i => some i
  | _ => none
noncomputable def intB (p : Int → Int → Bool) (a b : Val) : Option Bool := (vInt a).bind fun x => (vInt b).map fun y => p x y
noncomputable def pyLt : Nat → Val → Val → Option Bool
  | 0, _, _ => none
  | n + 1, a, b =>
    match a with
    | .int x => (vInt b).map fun y => decide (x < y)
    | .tup xs => (vTup b).bind fun ys => lts (pyEq []) (pyLt n) xs ys
    | _ => none
noncomputable def two1 (a b : Val) : List Val → Option (Val × Val)
  | [] => some (a, b)
  | _ :: _ => none
noncomputable def two2 (a : Val) : List Val → Option (Val × Val)
  | [] => none
  | b :: vs => two1 a b vs
noncomputable def vTwo : Val → Option (Val × Val)
  | .tup vs => (match vs with
    | [] => none
    | a :: vs => two2 a vs)
  | _ => none
noncomputable def keyOf (v : Val) : Option Key := (vTwo v).bind fun p => (vInt p.1).bind fun a => (vInt p.2).map fun b => (a, b)
noncomputable def valOf (k : Key) : Val := .tup [.int k.1, .int k.2]
noncomputable def dget (es : List (Key × Val)) (k : Key) : Option Val := es.lookup k
noncomputable def dput : List (Key × Val) → Key → Val → List (Key × Val)
  | [], k, v => [(k, v)]
  | (k', v') :: es, k, v => if k' = k then (k', v) :: es else (k', v') :: dput es k v
noncomputable def inList (H : Hp) (x : Val) (ys : List Val) : Option Bool :=
  match dataOf H deep x, dats (dataOf H deep) ys with
  | some d, some ds => some (ds.any fun y => PyData.eqv y d)
  | _, _ => none
noncomputable def small (a : Int) : Bool := decide (-(2 ^ 64) < a) && decide (a < 2 ^ 64)
noncomputable def binV (op : BOp) (a b : Val) : M Val :=
  match op, a, b with
  | .add, .int x, .int y => .ret (.int (x + y))
  | .sub, .int x, .int y => .ret (.int (x - y))
  | .mul, .int x, .int y => if (small x || small y) = true then .ret (.int (x * y)) else .bad
  | .fdiv, .int x, .int y => if y = 0 ∨ 1073741824 ≤ y.natAbs then .bad else .ret (.int (Int.fdiv x y))
  | .mod, .int x, .int y => if y = 0 then .bad else .ret (.int (Int.fmod x y))
  | .add, .str x, .str y => if x.length + y.length ≤ lid then .ret (.str (x ++ y)) else .bad
  | .add, .loc x, .loc y => fun H =>
    match H[x]?, H[y]? with
    | some (.list xs), some (.list ys) => if xs.length + ys.length ≤ lid then M.alloc (.list (xs ++ ys)) H else .bad
    | _, _ => .bad
  | .mul, .loc x, .int n => fun H =>
    match H[x]? with
    | some (.list [v]) => if 0 ≤ n ∧ n ≤ 1000 then M.alloc (.list (List.replicate n.toNat v)) H else .bad
    | _ => .bad
  | _, _, _ => .bad
noncomputable def flip (_neg : Bool) : Option Bool → Option Bool
  | some b => some (!b)
  | none => none
noncomputable def isV (a b : Val) : Option Bool :=
  match b with
  | .none => some (match a with | .none => true | _ => false)
  | .bool y => (match a with | .bool x => some (x == y) | _ => none)
  | _ => none
noncomputable def inV (a b : Val) (H : Hp) : Option Bool :=
  match b with
  | .loc l =>
    match H[l]? with
    | some (.list ys) => inList H a ys
    | some (.dict es) => match keyOf a with
      | some k => some (dget es k).isSome
      | none => none
    | _ => none
  | .str y => match a with
    | .str x => some (Txt.contains y x)
    | _ => none
  | _ => none
noncomputable def cmpV (op : COp) (a b : Val) (H : Hp) : Option Bool :=
  match op with
  | .eq => pyEq H a b
  | .ne => flip true (pyEq H a b)
  | .lt => pyLt deep a b
  | .gt => intB (fun x y => decide (x > y)) a b
  | .le => intB (fun x y => decide (x ≤ y)) a b
  | .is => isV a b
  | .isin => inV a b H
  | .notin => flip true (inV a b H)
noncomputable def iterOf (v : Val) (H : Hp) : Option (List Val × Option Nat) :=
  match v with
  | .loc l =>
    match H[l]? with
    | some (.list xs) => some (xs, some l)
    | _ => none
  | .tup xs => some (xs, none)
  | .script ns => some (ns.map .int, none)
  | .rng n => some ((List.range n.toNat).map (fun (k : Nat) => .int (k : Int)), none)
  | .str s => some (s.cps.toList.map (fun c => .str ⟨#[c]⟩), none)
  | _ => none
noncomputable def chk (src : Option Nat) (xs : List Val) (H : Hp) : Bool :=
  match src with
  | none => true
  | some l =>
    match H[l]? with
    | some (.list ys) => sames ys xs
    | _ => false
noncomputable def itemsOf (v : Val) (H : Hp) : Option (List Val) :=
  match v with
  | .loc l =>
    match H[l]? with
    | some (.list xs) => some xs
    | _ => none
  | .tup xs => some xs
  | .script ns => some (ns.map .int)
  | _ => none
noncomputable def placeOf (i : Int) (n : Nat) : Option Nat :=
  if 0 ≤ i then (if i < n then some i.toNat else none) else (if -(n : Int) ≤ i then some (i + n).toNat else none)
noncomputable def boundOf : Val → Option (Option Int)
  | .none => some none
  | .int i => some (some i)
  | _ => none
noncomputable def subV (a i : Val) : M Val := .look fun H =>
  match a, i with
  | .loc l, i =>
    match H[l]?, i with
    | some (.list xs), .int k => (placeOf k xs.length).bind fun p => xs[p]?
    | some (.dict es), i => (keyOf i).bind (dget es)
    | _, _ => none
  | .tup xs, .int k => if 0 ≤ k then xs[k.toNat]? else none
  | .script ns, .int k => (placeOf k ns.length).bind fun p => (ns[p]?).map .int
  | .str s, .int k => (placeOf k s.length).bind fun p => (s.cps[p]?).map fun c => .str ⟨#[c]⟩
  | _, _ => none
noncomputable def isTup : Val → Bool
  | .tup _ => true
  | _ => false
noncomputable def cutOf (lo hi : Val) (n : Nat) : Option (Bool × Nat) := match lo with
  | .int k => (match hi with
    | .none => some (true, if 0 ≤ k then k.toNat else n - k.natAbs)
    | _ => none)
  | .none => (match hi with
    | .int k => if 0 ≤ k then some (false, k.toNat) else none
    | _ => none)
  | _ => none
noncomputable def cut {α : Type} (p : Bool × Nat) (xs : List α) : List α := match p.1 with
  | true => xs.drop p.2
  | false => xs.take p.2
noncomputable def txtOf : Val → Option Str
  | .str s => some s
  | _ => none
noncomputable def sliceT (a lo hi : Val) : Option Val := (txtOf a).bind fun x => (boundOf lo).bind fun l => (boundOf hi).map fun h => .str (Txt.slice x l h)
noncomputable def sliceV (a lo hi : Val) : M Val := fun H =>
  match itemsOf a H with
  | some xs => (match cutOf lo hi xs.length with
    | some p => if isTup a = true then .bad else M.alloc (.list (cut p xs)) H
    | none => .bad)
  | none => M.ofOpt (sliceT a lo hi) H
structure Order (xs : List Val) (lt : Val → Val → Bool) : Prop where
  is : ∀ x ∈ xs, ∀ y ∈ xs, pyLt deep x y = some (lt x y)
  asym : ∀ x ∈ xs, ∀ y ∈ xs, lt x y = true → lt y x = false
  tr : ∀ x ∈ xs, ∀ y ∈ xs, ∀ z ∈ xs, lt y x = false → lt z y = false → lt z x = false
  anti : ∀ x ∈ xs, ∀ y ∈ xs, lt x y = false → lt y x = false → x = y
open Classical in
noncomputable def itemsL (v : Val) (H : Hp) : Option (List Val) := match v with
  | .loc l => (match H[l]? with
    | some (.list xs) => some xs
    | _ => none)
  | _ => none
noncomputable def numText (i : Int) : Str := Str.ofString (toString i)
noncomputable def strsOf : List Val → Option (List Str)
  | [] => some []
  | .str s :: r => (strsOf r).map (s :: ·)
  | _ :: _ => none
noncomputable def figOk (s : Str) : Bool := s.cps.toList.all fun c => decide (48 ≤ c) && decide (c ≤ 57)
noncomputable def figVal (s : Str) : Nat := s.cps.toList.foldl (fun acc c => acc * 10 + (c - 48)) 0
noncomputable def intV : Val → M Val
  | .bool b => .ret (.int (if b = true then 1 else 0))
  | .str s => if (figOk s && (decide (1 ≤ s.length) && decide (s.length ≤ 640))) = true then .ret (.int (figVal s)) else .bad
  | _ => .bad
noncomputable def joinV (s : Str) (v : Val) : M Val := .look fun H => (itemsL v H).bind fun xs => (strsOf xs).bind fun ys =>
  if (ys.map (·.length)).sum + ys.length * s.length ≤ lid then some (.str (Txt.join s ys)) else none
noncomputable def splitV (s : Str) (v : Val) : M Val := fun H =>
  match txtOf v with
  | some y => if (y.length == 0) = false ∧ s.length + 2 ≤ lid then M.alloc (.list ((Txt.split s y).map .str)) H else .bad
  | none => .bad
noncomputable def bfV (f : BF) (args : List Val) : M Val :=
  match f, args with
  | .len, [v] => .look fun H =>
    match v with
    | .str s => some (.int s.length)
    | v => (itemsOf v H).map fun xs => .int xs.length
  | .range, [.int n] => if -1073741824 ≤ n ∧ n ≤ 1073741824 then .ret (.rng n) else .bad
  | .list, [v] => fun H =>
    match v with
    | .rng n => if n ≤ 100000 then M.alloc (.list ((List.range n.toNat).map fun (k : Nat) => .int (k : Int))) H else .bad
    | .loc _ => match itemsOf v H with
      | some xs => M.alloc (.list xs) H
      | none => .bad
    | _ => .bad
  | .int, [v] => intV v
  | .str, [.int a] => if small a = true then .ret (.str (numText a)) else .bad
  | _, _ => .bad
noncomputable def bmV (m : BM) (o : Val) (args : List Val) : M Val := fun H =>
  match o with
  | .str s =>
    match m, args with
    | .rstrip, [] => if (Txt.rstrip s).length ≤ lid then .ok (.str (Txt.rstrip s)) H else .bad
    | .join, [v] => joinV s v H
    | .split, [v] => splitV s v H
    | _, _ => .bad
  | .loc l =>
    match H[l]? with
    | some (.list xs) =>
      match m, args with
      | .append, [v] => if xs.length < lid then .ok .none (H.set l (.list (xs ++ [v]))) else .bad
      | _, _ => .bad
    | some (.dict es) =>
      match m, args with
      | _, _ => .bad
    | _ => .bad
  | _ => .bad
inductive Kd where
  | none | bool | int | str | tuple | list | dict
noncomputable def kdOf (H : Hp) : Val → Option Kd
  | .none => some .none
  | .bool _ => some .bool
  | .int _ => some .int
  | .str _ => some .str
  | .tup _ => some .tuple
  | .script _ => some .list
  | .loc l =>
    match H[l]? with
    | some (.list _) => some .list
    | some (.dict _) => some .dict
    | _ => none
  | _ => none
noncomputable def isKd : Ty → Kd → Bool
  | .int, .int => true
  | .int, .bool => true
  | .bool, .bool => true
  | .str, .str => true
  | .tuple, .tuple => true
  | .list, .list => true
  | _, _ => false
noncomputable def isinstV (T : Tab) (v : Val) (t : Ty) : M Val := .look fun H =>
  match t with
  | .cls d =>
    match v with
    | .exc c => if T.isExc c = true then some (.bool (T.sub c d)) else none
    | _ => none
  | t => (kdOf H v).map fun k => .bool (isKd t k)
noncomputable def attrV (v : Val) (n : Nat) : M Val := .look fun H =>
  match v with
  | .loc l =>
    match H[l]? with
    | some (.inst _ fs) => fs.lookup n
    | _ => none
  | _ => none
noncomputable def fput : List (Nat × Val) → Nat → Val → List (Nat × Val)
  | [], n, v => [(n, v)]
  | (m, u) :: r, n, v => if m = n then (m, v) :: r else (m, u) :: fput r n v
theorem fput_cons {m : Nat} {u : Val} {r : List (Nat × Val)} {n : Nat} {v : Val} : fput ((m, u) :: r) n v = if m = n then (m, v) :: r else (m, u) :: fput r n v := rfl
noncomputable def setattrV (o : Val) (n : Nat) (v : Val) : M Unit := fun H =>
  match o with
  | .loc l =>
    match H[l]? with
    | some (.inst c fs) => .ok () (H.set l (.inst c (fput fs n v)))
    | _ => .bad
  | _ => .bad
noncomputable def setitemV (o i v : Val) : M Unit := fun H =>
  match o with
  | .loc l =>
    match H[l]? with
    | some (.list xs) =>
      match i with
      | .int k => if 0 ≤ k ∧ k < xs.length then .ok () (H.set l (.list (xs.set k.toNat v))) else .bad
      | _ => .bad
    | some (.dict es) =>
      match keyOf i with
      | some k => if es.length < lid then .ok () (H.set l (.dict (dput es k v))) else .bad
      | none => .bad
    | _ => .bad
  | _ => .bad
noncomputable def bmHost : BM → String
  | .append => "list"
  | .join => "str"
  | .split => "str"
  | .rstrip => "str"
noncomputable def hostOf (o : Val) (H : Hp) : Option String :=
  match o with
  | .str _ => some "str"
  | .loc l =>
    match H[l]? with
    | some (.list _) => some "list"
    | some (.dict _) => some "dict"
    | _ => none
  | _ => none
noncomputable def bmFits (m : BM) (o : Val) (H : Hp) : Option Unit := if hostOf o H = some (bmHost m) then some () else none
noncomputable def truth : Val → M Bool
  | .bool b => .ret b
  | _ => .bad
noncomputable abbrev Env' := List (Option Val)
noncomputable abbrev Funs := Nat → List Val → M Val
noncomputable def compL (chk : Hp → Bool) (step : Val → M (Option Val)) : List Val → M (List Val)
  | [] => fun H => if chk H = true then .ok [] H else .bad
  | x :: xs => fun H => if chk H = true then ((step x).bnd fun r => (compL chk step xs).bnd fun ys => .ret (match r with | some y => y :: ys | none => ys)) H else .bad
noncomputable def newV (T : Tab) (Φ : Funs) (c : Nat) (args : List Val) : M Val :=
  match T.meth c 0 with
  | some k => (M.alloc (.inst c [])).bnd fun o => (Φ k (o :: args)).bnd fun r => match r with
    | .none => .ret o
    | _ => .bad
  | none => .bad
noncomputable def umethOf (T : Tab) (o : Val) (m : Nat) : M Nat := .look fun H =>
  match o with
  | .loc l =>
    match H[l]? with
    | some (.inst c _) => T.meth c m
    | _ => none
  | _ => none
mutual
noncomputable def evalE (T : Tab) (Φ : Funs) : ME → Env' → M Val
  | .none, _ => .ret .none
  | .bool b, _ => .ret (.bool b)
  | .int i, _ => .ret (.int i)
  | .str s, _ => .ret (.str s)
  | .glob k, _ => .ofOpt T.globs[k]?
  | .var i, Γ => .ofOpt (match Γ[i]? with | some (some v) => some v | _ => none)
  | .bin op a b, Γ => (evalE T Φ a Γ).bnd fun x => (evalE T Φ b Γ).bnd fun y => binV op x y
  | .neg a, Γ => (evalE T Φ a Γ).bnd fun x => match x with
    | .int i => .ret (.int (-i))
    | _ => .bad
  | .not a, Γ => (evalE T Φ a Γ).bnd fun x => (truth x).bnd fun b => .ret (.bool (!b))
  | .and a b, Γ => (evalE T Φ a Γ).bnd fun x => (truth x).bnd fun t => match t with
    | true => evalE T Φ b Γ
    | false => .ret (.bool false)
  | .or a b, Γ => (evalE T Φ a Γ).bnd fun x => (truth x).bnd fun t => match t with
    | true => .ret (.bool true)
    | false => evalE T Φ b Γ
  | .cmp op a b, Γ => (evalE T Φ a Γ).bnd fun x => (evalE T Φ b Γ).bnd fun y => (M.look (cmpV op x y)).bnd fun r => .ret (.bool r)
  | .cmp2 op1 op2 a b c, Γ => (evalE T Φ a Γ).bnd fun x => (evalE T Φ b Γ).bnd fun y => (M.look (cmpV op1 x y)).bnd fun r => match r with
    | true => (evalE T Φ c Γ).bnd fun z => (M.look (cmpV op2 y z)).bnd fun r => .ret (.bool r)
    | false => .ret (.bool false)
  | .sub a i, Γ => (evalE T Φ a Γ).bnd fun x => (evalE T Φ i Γ).bnd fun y => subV x y
  | .slice a lo hi, Γ => (evalE T Φ a Γ).bnd fun x => (evalO T Φ lo Γ).bnd fun l => (evalO T Φ hi Γ).bnd fun h => sliceV x l h
  | .tup es, Γ => (evalEs T Φ es Γ).bnd fun vs => .ret (.tup vs)
  | .list es, Γ => (evalEs T Φ es Γ).bnd fun vs => M.alloc (.list vs)
  | .dict, _ => M.alloc (.dict [])
  | .attr a n, Γ => (evalE T Φ a Γ).bnd fun x => attrV x n
  | .call f es, Γ => (evalEs T Φ es Γ).bnd fun vs => Φ f vs
  | .new c es, Γ => match T.meth c 0 with
    | some _ => (evalEs T Φ es Γ).bnd fun vs => newV T Φ c vs
    | none => M.bad
  | .umeth a m es, Γ => (evalE T Φ a Γ).bnd fun o => (umethOf T o m).bnd fun k => (evalEs T Φ es Γ).bnd fun vs => Φ k (o :: vs)
  | .bf f es, Γ => (evalEs T Φ es Γ).bnd fun vs => bfV f vs
  | .bm a m es, Γ => (evalE T Φ a Γ).bnd fun o => (M.look (bmFits m o)).bnd fun _ => (evalEs T Φ es Γ).bnd fun vs => bmV m o vs
  | .isinst a t, Γ => (evalE T Φ a Γ).bnd fun x => isinstV T x t
  | .comp elt it cond, Γ => (evalE T Φ it Γ).bnd fun v => (M.look (iterOf v)).bnd fun p =>
      (M.quiet (compL (chk p.2 p.1) (fun x => (evalC T Φ cond (Γ ++ [some x])).bnd fun b => match b with
        | true => (evalE T Φ elt (Γ ++ [some x])).bnd fun y => .ret (some y)
        | false => .ret none) p.1)).bnd fun ys => if ys.length < lid then M.alloc (.list ys) else .bad
noncomputable def evalO (T : Tab) (Φ : Funs) : MEo → Env' → M Val
  | .none, _ => .ret .none
  | .some e, Γ => evalE T Φ e Γ
noncomputable def evalC (T : Tab) (Φ : Funs) : MEo → Env' → M Bool
  | .none, _ => .ret true
  | .some e, Γ => (evalE T Φ e Γ).bnd truth
noncomputable def evalEs (T : Tab) (Φ : Funs) : MEs → Env' → M (List Val)
  | .nil, _ => .ret []
  | .cons e es, Γ => (evalE T Φ e Γ).bnd fun v => (evalEs T Φ es Γ).bnd fun vs => .ret (v :: vs)
end
inductive ResS where
  | next (Γ : Env') (H : Hp)
  | ret (v : Val) (H : Hp)
  | exc (c : Nat) (Γ : Env') (H : Hp)
  | bad
noncomputable def bndS {α : Type} (m : M α) (Γ : Env') (f : α → Hp → ResS) (H : Hp) : ResS :=
  match m H with
  | .ok a H' => f a H'
  | .exc c H' => .exc c Γ H'
  | .bad => .bad
noncomputable def thenS (r : ResS) (f : Env' → Hp → ResS) : ResS :=
  match r with
  | .next Γ H => f Γ H
  | .ret v H => .ret v H
  | .exc c Γ H => .exc c Γ H
  | .bad => .bad
noncomputable def eachL (chk : Hp → Bool) (bind : Val → Env' → Option Env') (body : Env' → Hp → ResS) : List Val → Env' → Hp → ResS
  | [], Γ, H => if chk H = true then .next Γ H else .bad
  | x :: xs, Γ, H => if chk H = true then (match bind x Γ with
    | some Γ' => thenS (body Γ' H) (eachL chk bind body xs)
    | none => .bad) else .bad
theorem eachL_nil {chk : Hp → Bool} {bind : Val → Env' → Option Env'} {body : Env' → Hp → ResS} {Γ : Env'} {H : Hp} : eachL chk bind body [] Γ H = if chk H = true then .next Γ H else .bad := rfl
theorem eachL_cons {chk : Hp → Bool} {bind : Val → Env' → Option Env'} {body : Env' → Hp → ResS} {x : Val} {xs : List Val} {Γ : Env'} {H : Hp} : eachL chk bind body (x :: xs) Γ H = if chk H = true then (match bind x Γ with
    | some Γ' => thenS (body Γ' H) (eachL chk bind body xs)
    | none => .bad) else .bad := rfl
noncomputable def countUp : Nat → List Val → List Val
  | _, [] => []
  | n, a :: as => .tup [.int n, a] :: countUp (n + 1) as
noncomputable def bind1 (i : Nat) (v : Val) (Γ : Env') : Option Env' := some (Γ.set i (some v))
noncomputable def bind2 (i j : Nat) (v : Val) (Γ : Env') : Option Env' := (vTwo v).map fun p => (Γ.set i (some p.1)).set j (some p.2)
noncomputable def listOf (v : Val) (H : Hp) : Option (List Val × Nat) :=
  match v with
  | .loc l =>
    match H[l]? with
    | some (.list xs) => some (xs, l)
    | _ => none
  | _ => none
mutual
noncomputable def execS (T : Tab) (Φ : Funs) : MS → Env' → Hp → ResS
  | .expr e, Γ, H => bndS (evalE T Φ e Γ) Γ (fun _ H => .next Γ H) H
  | .assign i e, Γ, H => bndS (evalE T Φ e Γ) Γ (fun v H => .next (Γ.set i (some v)) H) H
  | .setattr o n e, Γ, H => bndS (evalE T Φ e Γ) Γ (fun v => bndS (evalE T Φ o Γ) Γ fun o => bndS (setattrV o n v) Γ fun _ H => .next Γ H) H
  | .setitem o i e, Γ, H => bndS (evalE T Φ e Γ) Γ (fun v => bndS (evalE T Φ o Γ) Γ fun o => bndS (evalE T Φ i Γ) Γ fun i => bndS (setitemV o i v) Γ fun _ H => .next Γ H) H
  | .ret e, Γ, H => bndS (evalO T Φ e Γ) Γ (fun v H => .ret v H) H
  | .ite c t f, Γ, H => bndS ((evalE T Φ c Γ).bnd truth) Γ (fun b => match b with
    | true => execSs T Φ t Γ
    | false => execSs T Φ f Γ) H
  | .each i it body, Γ, H => bndS (evalE T Φ it Γ) Γ (fun v => bndS (M.look (iterOf v)) Γ fun p => eachL (chk p.2 p.1) (bind1 i) (execSs T Φ body) p.1 Γ) H
  | .eachEnum i j a body, Γ, H => bndS (evalE T Φ a Γ) Γ (fun v => bndS (M.look (listOf v)) Γ fun p => eachL (chk (some p.2) p.1) (bind2 i j) (execSs T Φ body) (countUp 0 p.1) Γ) H
  | .raise c _, Γ, H => if T.isExc c = true then .exc c Γ H else .bad
  | .tryx body hs, Γ, H =>
    match execSs T Φ body Γ H with
    | .exc c Γ' H' => execH T Φ hs c Γ' H'
    | r => r
noncomputable def execSs (T : Tab) (Φ : Funs) : MSs → Env' → Hp → ResS
  | .nil, Γ, H => .next Γ H
  | .cons s ss, Γ, H => thenS (execS T Φ s Γ H) (execSs T Φ ss)
noncomputable def execH (T : Tab) (Φ : Funs) : MHs → Nat → Env' → Hp → ResS
  | .nil, c, Γ, H => .exc c Γ H
  | .cons d i body hs, c, Γ, H =>
    if (T.isExc c && T.isExc d && calmSs (calmFn T) body) = false then .bad else if T.sub c d = true then
      match execSs T Φ body (match i with | some i => Γ.set i (some (.exc c)) | none => Γ) H with
      | .ret v H' => .ret v H'
      | _ => .bad
    else execH T Φ hs c Γ H
end
noncomputable def resOf : ResS → Res Val
  | .next _ H' => .ok .none H'
  | .ret v H' => .ok v H'
  | .exc c _ H' => .exc c H'
  | .bad => .bad
noncomputable def runF (T : Tab) (Φ : Funs) (f : MFun) (args : List Val) : M Val := fun H =>
  if args.length = f.arity then resOf (execSs T Φ f.body (args.map some ++ List.replicate f.nvars none) H) else .bad
noncomputable def callF (T : Tab) : Nat → Funs
  | 0, _, _ => .bad
  | d + 1, k, args =>
    match T.funs[k]? with
    | none => .bad
    | some f => runF T (callF T d) f args
theorem callF_succ {T : Tab} {d k : Nat} {args : List Val} : callF T (d + 1) k args = (match T.funs[k]? with
    | none => .bad
    | some f => runF T (callF T d) f args) := rfl
theorem ev_glob {T : Tab} {Φ : Funs} {Γ : Env'} (k) : evalE T Φ (.glob k) Γ = (.ofOpt T.globs[k]?) := rfl
theorem ev_var {T : Tab} {Φ : Funs} {Γ : Env'} (i) : evalE T Φ (.var i) Γ = (.ofOpt (match Γ[i]? with | some (some v) => some v | _ => none)) := rfl
theorem ev_not {T : Tab} {Φ : Funs} {Γ : Env'} (a) : evalE T Φ (.not a) Γ = ((evalE T Φ a Γ).bnd fun x => (truth x).bnd fun b => .ret (.bool (!b))) := rfl
theorem ev_and {T : Tab} {Φ : Funs} {Γ : Env'} (a b) : evalE T Φ (.and a b) Γ = ((evalE T Φ a Γ).bnd fun x => (truth x).bnd fun t => match t with
    | true => evalE T Φ b Γ
    | false => .ret (.bool false)) := rfl
theorem ev_or {T : Tab} {Φ : Funs} {Γ : Env'} (a b) : evalE T Φ (.or a b) Γ = ((evalE T Φ a Γ).bnd fun x => (truth x).bnd fun t => match t with
    | true => .ret (.bool true)
    | false => evalE T Φ b Γ) := rfl
theorem ev_cmp {T : Tab} {Φ : Funs} {Γ : Env'} (op a b) : evalE T Φ (.cmp op a b) Γ = ((evalE T Φ a Γ).bnd fun x => (evalE T Φ b Γ).bnd fun y => (M.look (cmpV op x y)).bnd fun r => .ret (.bool r)) := rfl
theorem ev_cmp2 {T : Tab} {Φ : Funs} {Γ : Env'} (op1 op2 a b c) : evalE T Φ (.cmp2 op1 op2 a b c) Γ = ((evalE T Φ a Γ).bnd fun x => (evalE T Φ b Γ).bnd fun y => (M.look (cmpV op1 x y)).bnd fun r => match r with
    | true => (evalE T Φ c Γ).bnd fun z => (M.look (cmpV op2 y z)).bnd fun r => .ret (.bool r)
    | false => .ret (.bool false)) := rfl
theorem ev_call {T : Tab} {Φ : Funs} {Γ : Env'} (f es) : evalE T Φ (.call f es) Γ = ((evalEs T Φ es Γ).bnd fun vs => Φ f vs) := rfl
theorem ev_new {T : Tab} {Φ : Funs} {Γ : Env'} (c es) : evalE T Φ (.new c es) Γ = (match T.meth c 0 with
    | some _ => (evalEs T Φ es Γ).bnd fun vs => newV T Φ c vs
    | none => M.bad) := rfl
theorem ev_umeth {T : Tab} {Φ : Funs} {Γ : Env'} (a m es) : evalE T Φ (.umeth a m es) Γ = ((evalE T Φ a Γ).bnd fun o => (umethOf T o m).bnd fun k => (evalEs T Φ es Γ).bnd fun vs => Φ k (o :: vs)) := rfl
theorem ev_bf {T : Tab} {Φ : Funs} {Γ : Env'} (f es) : evalE T Φ (.bf f es) Γ = ((evalEs T Φ es Γ).bnd fun vs => bfV f vs) := rfl
theorem ev_bm {T : Tab} {Φ : Funs} {Γ : Env'} (a m es) : evalE T Φ (.bm a m es) Γ = ((evalE T Φ a Γ).bnd fun o => (M.look (bmFits m o)).bnd fun _ => (evalEs T Φ es Γ).bnd fun vs => bmV m o vs) := rfl
theorem ev_isinst {T : Tab} {Φ : Funs} {Γ : Env'} (a t) : evalE T Φ (.isinst a t) Γ = ((evalE T Φ a Γ).bnd fun x => isinstV T x t) := rfl
theorem ex_assign {T : Tab} {Φ : Funs} {Γ : Env'} {H : Hp} (i e) : execS T Φ (.assign i e) Γ H = (bndS (evalE T Φ e Γ) Γ (fun v H => .next (Γ.set i (some v)) H) H) := rfl
theorem ex_raise {T : Tab} {Φ : Funs} {Γ : Env'} {H : Hp} (c m) : execS T Φ (.raise c m) Γ H = (if T.isExc c = true then .exc c Γ H else .bad) := rfl
theorem evs_cons {T : Tab} {Φ : Funs} {Γ : Env'} (e es) : evalEs T Φ (.cons e es) Γ = ((evalE T Φ e Γ).bnd fun v => (evalEs T Φ es Γ).bnd fun vs => .ret (v :: vs)) := rfl
end
end Mine
-- part MEl
namespace Mine
open PySem
theorem vInt_el {v : Val} {i : Int} (h : vInt v = some i) : v = .int i := by
  cases v with
  | int j => exact congrArg _ (Option.some.inj h)
  | _ => exact no_some h
theorem txt_el {v : Val} {i : Str} (h : txtOf v = some i) : v = .str i := by
  cases v with
  | str j => exact congrArg _ (Option.some.inj h)
  | _ => exact no_some h
theorem vTwo_el {v : Val} {p : Val × Val} (h : vTwo v = some p) : v = .tup [p.1, p.2] := by
  cases v with
  | tup vs =>
    cases vs with
    | nil => exact no_some h
    | cons x vs =>
      cases vs with
      | nil => exact no_some h
      | cons y vs =>
        cases vs with
        | nil => exact Option.some.inj h ▸ rfl
        | cons _ _ => exact no_some h
  | _ => exact no_some h
theorem vTup_el {v : Val} {i : List Val} (h : vTup v = some i) : v = .tup i := by
  cases v with
  | tup j => exact congrArg _ (Option.some.inj h)
  | _ => exact no_some h
theorem key_el {a : Val} {k : Key} (h : keyOf a = some k) : a = .tup [.int k.1, .int k.2] := by
  obtain ⟨p, e, h⟩ := Option.bind_eq_some_iff.mp h
  obtain ⟨x, e1, h⟩ := Option.bind_eq_some_iff.mp h
  obtain ⟨y, e2, h⟩ := Option.map_eq_some_iff.mp h
  have q : Val.tup [p.1, p.2] = .tup [.int x, .int y] := vInt_el e1 ▸ vInt_el e2 ▸ rfl
  exact h ▸ (vTwo_el e).trans q
theorem dats_el {f : Val → Option PyData} {x : Val} {xs : List Val} {ds : List PyData} {C : List PyData → Prop} (h : dats f (x :: xs) = some ds) (k : ∀ d ds', f x = some d → dats f xs = some ds' → C (d :: ds')) : C ds := by
  have h : (match f x, dats f xs with
    | some d, some ds => some (d :: ds)
    | _, _ => none) = some ds := h
  cases e1 : f x with
  | none => rw [e1] at h; exact no_some h
  | some d =>
    cases e2 : dats f xs with
    | none => rw [e1, e2] at h; exact no_some h
    | some ds' => rw [e1, e2] at h; exact Option.some.inj h ▸ k d ds' e1 e2
theorem eq_el {H : Hp} {a b : Val} {r : Bool} {C : Bool → Prop} (h : pyEq H a b = some r) (k : ∀ x y, dataOf H deep a = some x → dataOf H deep b = some y → C (PyData.eqv x y)) : C r := by
  delta pyEq at h
  cases e1 : dataOf H deep a with
  | none => rw [e1] at h; exact no_some h
  | some d =>
    cases e2 : dataOf H deep b with
    | none => rw [e1, e2] at h; exact no_some h
    | some ds' => rw [e1, e2] at h; exact Option.some.inj h ▸ k d ds' e1 e2
theorem inl_el {H : Hp} {x : Val} {ys : List Val} {r : Bool} {C : Bool → Prop} (h : inList H x ys = some r) (k : ∀ d ds, dataOf H deep x = some d → dats (dataOf H deep) ys = some ds → C (ds.any fun y => PyData.eqv y d)) : C r := by
  delta inList at h
  cases e1 : dataOf H deep x with
  | none => rw [e1] at h; exact no_some h
  | some d =>
    cases e2 : dats (dataOf H deep) ys with
    | none => rw [e1, e2] at h; exact no_some h
    | some ds' => rw [e1, e2] at h; exact Option.some.inj h ▸ k d ds' e1 e2
theorem lts_cons {e f : Val → Val → Option Bool} {x y : Val} {xs ys : List Val} {r : Bool} (h : lts e f (x :: xs) (y :: ys) = some r) : (e x y = some true ∧ lts e f xs ys = some r) ∨ (e x y = some false ∧ f x y = some r) := by
  have h : (match e x y with
    | some true => lts e f xs ys
    | some false => f x y
    | none => none) = some r := h
  cases q : e x y with
  | none => rw [q] at h; exact no_some h
  | some b =>
    rw [q] at h
    cases b with
    | true => exact .inl ⟨rfl, h⟩
    | false => exact .inr ⟨rfl, h⟩
theorem lt_el {n : Nat} {a b : Val} {r : Bool} {C : Val → Val → Bool → Prop} (h : pyLt (n + 1) a b = some r) (k1 : ∀ x y, C (.int x) (.int y) (decide (x < y))) (k2 : ∀ xs ys, lts (pyEq []) (pyLt n) xs ys = some r → C (.tup xs) (.tup ys) r) : C a b r := by
  cases a with
  | int x =>
    obtain ⟨y, e, h⟩ := Option.map_eq_some_iff.mp h
    exact vInt_el e ▸ h ▸ k1 x y
  | tup xs =>
    obtain ⟨ys, e, h⟩ := Option.bind_eq_some_iff.mp h
    exact vTup_el e ▸ k2 xs ys h
  | _ => exact no_some h
theorem in_el {H : Hp} {a : Val} {l : Nat} {r : Bool} {C : Bool → Prop} (h : inV a (.loc l) H = some r) (k1 : ∀ ys, H[l]? = some (.list ys) → inList H a ys = some r → C r) (k2 : ∀ es k, H[l]? = some (.dict es) → keyOf a = some k → C (dget es k).isSome) : C r := by
  delta inV at h
  dsimp only at h
  cases q : H[l]? with
  | none => rw [q] at h; exact no_some h
  | some o =>
    rw [q] at h
    cases o with
    | list ys => exact k1 ys q h
    | dict es =>
      dsimp only at h
      cases q2 : keyOf a with
      | none => rw [q2] at h; exact no_some h
      | some k => rw [q2] at h; exact Option.some.inj h ▸ k2 es k q q2
    | _ => exact no_some h
theorem int_el {a b : Val} {p : Int → Int → Bool} {r : Bool} {C : Val → Val → Bool → Prop} (e : intB p a b = some r) (k : ∀ x y, C (.int x) (.int y) (p x y)) : C a b r := by
  obtain ⟨x, e1, e⟩ := Option.bind_eq_some_iff.mp e
  obtain ⟨y, e2, e⟩ := Option.map_eq_some_iff.mp e
  exact vInt_el e1 ▸ vInt_el e2 ▸ e ▸ k x y
theorem flip_some {o : Option Bool} {r : Bool} (h : flip true o = some r) : ∃ r', o = some r' ∧ r = !r' := by
  cases o with
  | none => exact no_some h
  | some b => exact ⟨b, rfl, (Option.some.inj h).symm⟩
theorem items_loc {H : Hp} {l : Nat} {xs : List Val} (h : itemsOf (.loc l) H = some xs) : H[l]? = some (.list xs) := by
  delta itemsOf at h
  dsimp only at h
  cases q : H[l]? with
  | none => rw [q] at h; exact no_some h
  | some o =>
    rw [q] at h
    cases o with
    | list ys => cases h; rfl
    | _ => exact no_some h
theorem iter_loc {H : Hp} {l : Nat} {xs : List Val} {src : Option Nat} (h : iterOf (.loc l) H = some (xs, src)) : H[l]? = some (.list xs) ∧ src = some l := by
  delta iterOf at h
  dsimp only at h
  cases q : H[l]? with
  | none => rw [q] at h; exact no_some h
  | some o =>
    rw [q] at h
    cases o with
    | list ys =>
      have h := Option.some.inj h
      exact ⟨congrArg (fun p => some (HObj.list p.1)) h, (congrArg Prod.snd h).symm⟩
    | _ => exact no_some h
theorem itemsL_el {a : Val} {H : Hp} {xs : List Val} (h : itemsL a H = some xs) : ∃ l, a = .loc l ∧ H[l]? = some (.list xs) := by
  cases a with
  | loc l => exact ⟨l, rfl, items_loc h⟩
  | _ => exact no_some h
theorem chk_el {l : Nat} {xs : List Val} {H : Hp} (h : chk (some l) xs H = true) : H[l]? = some (.list xs) := by
  delta chk at h
  dsimp only at h
  cases q : H[l]? with
  | none => rw [q] at h; exact no_true h
  | some o =>
    rw [q] at h
    cases o with
    | list ys => exact congrArg (fun x => some (HObj.list x)) (sames_eq _ _ h)
    | _ => exact no_true h
theorem chk_of {H : Hp} {l : Nat} {xs : List Val} (h : H[l]? = some (.list xs)) : chk (some l) xs H = true := by
  delta chk; dsimp only; rw [h]; exact sames_refl xs
theorem kd_el {H : Hp} {l : Nat} {k : Kd} {C : Kd → Prop} (h : kdOf H (.loc l) = some k) (k1 : ∀ xs, H[l]? = some (.list xs) → C .list) (k2 : ∀ xs, H[l]? = some (.dict xs) → C .dict) : C k := by
  delta kdOf at h
  dsimp only at h
  cases q : H[l]? with
  | none => rw [q] at h; exact no_some h
  | some o =>
    rw [q] at h
    cases o with
    | list ys => exact Option.some.inj h ▸ k1 ys q
    | dict ys => exact Option.some.inj h ▸ k2 ys q
    | _ => exact no_some h
theorem kd_of {H : Hp} {l : Nat} {xs : List Val} (h : H[l]? = some (.list xs)) : kdOf H (.loc l) = some .list := by
  delta kdOf; dsimp only; rw [h]
theorem listOf_of {H : Hp} {l : Nat} {xs : List Val} (h : H[l]? = some (.list xs)) : listOf (.loc l) H = some (xs, l) := by
  delta listOf; dsimp only; rw [h]
theorem host_list {H : Hp} {l : Nat} {xs : List Val} (h : H[l]? = some (.list xs)) : hostOf (.loc l) H = some "list" := by
  delta hostOf; dsimp only; rw [h]
theorem host_el {H : Hp} {l : Nat} {k : String} {C : String → Prop} (h : hostOf (.loc l) H = some k) (k1 : ∀ xs, H[l]? = some (.list xs) → C "list") (k2 : ∀ xs, H[l]? = some (.dict xs) → C "dict") : C k := by
  delta hostOf at h
  dsimp only at h
  cases q : H[l]? with
  | none => rw [q] at h; exact no_some h
  | some o =>
    rw [q] at h
    cases o with
    | list ys => exact Option.some.inj h ▸ k1 ys q
    | dict ys => exact Option.some.inj h ▸ k2 ys q
    | _ => exact no_some h
theorem items_of {H : Hp} {l : Nat} {xs : List Val} (h : H[l]? = some (.list xs)) : itemsOf (.loc l) H = some xs := by
  delta itemsOf; dsimp only; rw [h]
theorem iter_of {H : Hp} {l : Nat} {xs : List Val} (h : H[l]? = some (.list xs)) : iterOf (.loc l) H = some (xs, some l) := by
  delta iterOf; dsimp only; rw [h]
end Mine
-- part MIsi
set_option maxRecDepth 100000
namespace Mine
open PySem PySem.W PySem.Spec PySem.Calls PyProof.Rows
structure ExcK (K : Frag) (D : Addr) : Prop where
  ga : findIn K (.ref D) "__getattribute__" = some (some (.builtin "BaseException.__getattribute__"))
  gt : findIn K (.ref D) "__getattr__" = some none
  mb : mroIn K D (.type "BaseException") = some true
  hd : hasDictIn K D = true
  fc : findIn K (.ref D) "__class__" = some (some (.builtin "object.__class__"))
  sg : specialIn K (.builtin "object.__class__") "__get__" = some (some (.builtin "getset_descriptor.__get__"))
  tk : takesIn K (.builtin "object.__class__") = some true
  mo : mroIn K D (.type "object") = some true
section
variable {prog : Program} {w : World} {A : Around} {E : Value → Shared → Prop} {s : Shared} {K : Frag} {x D : Addr} {ox : Obj}
theorem exc_ga : Slot "ValueError" "__getattribute__" "BaseException.__getattribute__" := F.excAttr_ValueError.ga
theorem exc_check {M : Model} {nameV : Value} {Q : Unit → Shared → Prop} (k : ExcK K D) (X : K.In s.heap) (I : InstAt s.heap x ox D none) (h : Q () s) :
    wpAny M A (checkBuiltinCall "BaseException.__getattribute__" ⟨[.ref x, nameV], []⟩) Q E s := by
  obtain ⟨hh, g, d, t, os⟩ := s
  have hk : builtinKind "BaseException.__getattribute__" = some .slot := by decide +kernel
  have hsplit : splitId "BaseException.__getattribute__" = some ("BaseException", "__getattribute__") := by decide +kernel
  have ha := F.args_bexc_ga (.ref x) nameV
  have LI : Looks M hh (isInstance (.ref x) (.type "BaseException")) true := (I.type (M := M)).andThen (looks_mroIn (M := M) X k.mb)
  simp only [checkBuiltinCall, hk, hsplit]
  refine wpAny_bind (LI.at ?_)
  repeat (first | exact h | wp_step)
theorem exc_entry {tk : Tok} {Q : Fin → Shared → Prop} (k : ExcK K D) (X : K.In s.heap) (I : InstAt s.heap x ox D none) (h : Q (.done (.ret (.ref D))) s) :
    wpAny (model prog w) A (Builtin.«object.__getattribute__» ⟨[.ref x, .str "__class__" tk], []⟩) Q E s := by
  have hc : (clsIn K D).isSome = true := by obtain ⟨cd, hc, _⟩ := any_some k.hd; rw [hc]; rfl
  have hf : findObj K D none "__class__" = some (.bind (.builtin "getset_descriptor.__get__") (.builtin "object.__class__")) := by
    obtain ⟨cd, hc⟩ := Option.isSome_iff_exists.mp hc
    delta findObj
    rw [hc, Option.bind_some, k.fc, Option.bind_some]
    show (specialIn K _ _).bind _ = _
    rw [k.sg, Option.bind_some]
    show (takesIn K _).bind _ = _
    rw [k.tk]
    rfl
  have L0 := I.type (M := model prog w)
  have L1 := looks_find (M := model prog w) X I hf
  unfold Builtin.«object.__getattribute__»
  refine wpAny_bind (wpAny_pure (wpAny_bind (wpAny_pure (wpAny_bind (L0.at (wpAny_bind (L1.at ?_)))))))
  exact wpAny_bind (wpAny_holding (wpAny_call (class_get (ox := ox) (od := none) X I k.mo (wpAny_pure h))))
theorem excK_class {Q : Option Value → Shared → Prop} (k : ExcK K D) (X : K.In s.heap) (I : InstAt s.heap x ox D none) (h : Q (some (.ref D)) { s with toks := s.toks + 1 }) : wpAny (model prog w) A (getAttr? (.ref x) "__class__") Q E s := by
  obtain ⟨hh, g, d, t, os⟩ := s
  have L0 := I.type (M := model prog w)
  have L1 := looks_findIn (M := model prog w) X k.ga
  have L2 := looks_findIn (M := model prog w) X k.gt
  unfold getAttr? getAttrBy? getAttrBy
  refine wpAny_bind (wpAny_mkText (wpAny_bind (wpAny_attempt (wpAny_holding (wpAny_bind (L0.at (wpAny_bind (L1.at ?_))))))))
  unfold getAttrByItsOwn
  refine wpAny_bind ?_
  refine L2.at ?_
  refine wpAny_bind (wpAny_attempt (wpAny_holding ?_))
  show wpAny _ _ (boundAndCalled _ _ _) _ _ _
  unfold boundAndCalled
  refine wpAny_bind (wpAny_of_eq (exc_ga.bind (.ref x)) ?_)
  refine wpAny_call (codeAny_call_builtin exc_ga.plain F.entry_bexc_ga (exc_check k X I (exc_entry k X I ?_)))
  exact handed_on rfl (wpAny_pure h)
theorem cls_isType {D : Addr} {M : Model} {h : Heap} (hc : (clsIn K D).isSome = true) (X : K.In h) : Looks M h (isType (.ref D)) true := by
  delta clsIn at hc
  cases ho : K.lookup D with
  | none => rw [ho] at hc; exact nomatch hc
  | some o =>
    rw [ho] at hc
    obtain ⟨c, d, data, sl⟩ := o
    cases data with
    | cls cd =>
      intro A' Q' E' s' k q
      unfold isType loadHead
      exact wpAny_bind (wpAny_loadPart (k _ _ (X _ _ ho)) (wpAny_pure q))
    | _ => exact nomatch hc
theorem excK_nested {c : Value} {dep : Int} {tk : Tok} {b : Bool} {Q : Fin → Shared → Prop} (k : ExcK K D) (X : K.In s.heap) (I : InstAt s.heap x ox D none) (hty : Looks (model prog w) s.heap (typeOf c) (.type "type")) (his : Looks (model prog w) s.heap (isType c) true)
    (hself : (Value.ref D == c) = true → b = true) (hsub : Looks (model prog w) s.heap (isSubtype (.ref D) c) b) (h : ∀ tk, Q (.done (.ret (.bool b))) { s with toks := tk }) :
    wpAny (model prog w) A (Builtin.«isinstance.nested» ⟨[.ref x, c, .int dep tk], []⟩) Q E s := by
  have hisD : Looks (model prog w) s.heap (isType (.ref D)) true := cls_isType (by obtain ⟨cd, hc, _⟩ := any_some k.hd; rw [hc]; rfl) X
  obtain ⟨h0, g, d, tt, os⟩ := s
  have L0 := I.type (M := model prog w)
  have LI : Looks (model prog w) h0 (isInstance (.ref x) c) b := L0.andThen hsub
  unfold Builtin.«isinstance.nested»
  refine wpAny_bind (L0.at ?_)
  by_cases q : (Value.ref D == c) = true
  · rw [if_pos q]
    have hb := hself q
    subst hb
    exact wpAny_bind (wpAny_rule (wpAny_bind (wpAny_pure (wpAny_pure (h tt)))))
  rw [if_neg q]
  refine wpAny_bind (hty.at ?_)
  k_delta "plainIsInstance"
  refine wpAny_bind (wpAny_bind (his.at ?_))
  simp only [Bool.not_true, Bool.false_eq_true, if_false]
  refine wpAny_bind (LI.at ?_)
  cases b with
  | true =>
    simp only [if_true]
    first
      | exact wpAny_pure (h tt)
      | exact wpAny_pure (wpAny_pure (h tt))
      | exact wpAny_bind (wpAny_pure (wpAny_pure (h tt)))
  | false =>
    simp only [Bool.false_eq_true, if_false]
    refine wpAny_bind (excK_class k X I ?_)
    refine wpAny_bind (hisD.at ?_)
    simp only [Bool.not_true, Bool.false_eq_true, if_false]
    refine wpAny_bind (wpAny_rule ?_)
    refine hsub.at ?_
    first
      | exact wpAny_pure (h _)
      | exact wpAny_pure (wpAny_pure (h _))
      | exact wpAny_bind (wpAny_pure (wpAny_pure (h _)))
theorem excK_call {c : Value} {b : Bool} {Q : Value → Shared → Prop} (k : ExcK K D) (X : K.In s.heap) (I : InstAt s.heap x ox D none) (hty : ∀ (M : Model) h', K.In h' → Looks M h' (typeOf c) (.type "type")) (his : ∀ (M : Model) h', K.In h' → Looks M h' (isType c) true)
    (hself : (Value.ref D == c) = true → b = true) (hsub : ∀ (M : Model) h', K.In h' → Looks M h' (isSubtype (.ref D) c) b) (h : ∀ tk, Q (.bool b) { s with toks := tk }) : wpAny (model prog w) A (call (.builtin "isinstance") [.ref x, c]) Q E s :=
  call_isinstance (S := fun _ R s => (K.In s.heap ∧ InstAt s.heap x ox D none) ∧ ∀ tk, R (.ok (.ret (.bool b))) { s with toks := tk })
    (fun _ _ _ _ _ hs => isinstance_outer (excK_nested k hs.1.1 hs.1.2 (hty _ _ hs.1.1) (his _ _ hs.1.1) hself (hsub _ _ hs.1.1) hs.2) (by intro q; cases q)) ⟨⟨X, I⟩, h⟩
end
noncomputable def clsVal (K : Frag) (v : Value) : Bool := match v with
  | .ref a => (clsIn K a).isSome && typeIn K (.ref a) == some (.type "type")
  | .type T => decide (T = "ValueError")
  | _ => false
theorem clsVal_ty {K : Frag} {v : Value} (h : clsVal K v = true) {M : Model} {g : Heap} (X : K.In g) : Looks M g (typeOf v) (.type "type") ∧ Looks M g (isType v) true := by
  cases v with
  | ref a =>
    have h := (Bool.and_eq_true _ _).mp h
    exact ⟨looks_typeIn X (beq_iff_eq.mp h.2), cls_isType h.1 X⟩
  | type T =>
    have h : T = "ValueError" := of_decide_eq_true h
    subst h
    exact ⟨Looks.of_pure (by kernel_rfl), Looks.of_pure rfl⟩
  | _ => cases h
end Mine
-- part MRel
namespace Mine
open PySem
noncomputable abbrev Rho := List (Addr × Addr)
noncomputable def Owned (ρ : Rho) (a : Addr) : Prop := ∃ p ∈ ρ, a = p.1 ∨ a = p.2
noncomputable def Grow (ρ : Rho) (h : Heap) (ρ' : Rho) : Prop := ∃ e, ρ' = ρ ++ e ∧ ∀ p ∈ e, h.get? p.1 = none ∧ h.get? p.2 = none
noncomputable def Live (h h' : Heap) : Prop := ∀ b o, h.get? b = some o → ∃ o', h'.get? b = some o'
theorem Live.refl (h : Heap) : Live h h := fun _ o e => ⟨o, e⟩
theorem Live.trans {h h' h'' : Heap} (x : Live h h') (y : Live h' h'') : Live h h'' := fun b o e => let ⟨o', e'⟩ := x b o e; y b o' e'
theorem Live.none {h h' : Heap} (x : Live h h') {a : Addr} (e : h'.get? a = none) : h.get? a = none := by
  cases q : h.get? a with
  | none => rfl
  | some o => obtain ⟨o', e'⟩ := x a o q; rw [e] at e'; exact no_some e'
theorem fresh_none (h : Heap) : h.get? h.objs.size = none := by
  cases q : h.get? h.objs.size with
  | none => rfl
  | some o => exact absurd (Heap.lt_size q) (Nat.lt_irrefl _)
theorem fresh_le {h : Heap} {a : Addr} (z : h.objs.size ≤ a) : h.get? a = none := by
  cases q : h.get? a with
  | none => rfl
  | some o => exact absurd (Heap.lt_size q) (Nat.not_lt.mpr z)
noncomputable def SameUp (o o' : Obj) : Prop := o' = o ∨ ((∃ es n, o.data = .dict es n) ∧ o' = { o with slots := o'.slots })
theorem SameUp.refl (o : Obj) : SameUp o o := .inl rfl
theorem SameUp.trans {o o' o'' : Obj} (x : SameUp o o') (y : SameUp o' o'') : SameUp o o'' := by
  rcases x with rfl | ⟨c, e⟩
  · exact y
  · rcases y with rfl | ⟨_, e'⟩
    · exact .inr ⟨c, e⟩
    · exact .inr ⟨c, by rw [e', e]⟩
theorem SameUp.exact {o o' : Obj} (x : SameUp o o') (n : ∀ es n, o.data ≠ .dict es n) : o' = o := x.elim id fun ⟨⟨es, k, e⟩, _⟩ => absurd e (n es k)
theorem SameUp.data {o o' : Obj} (x : SameUp o o') : o'.data = o.data := by rcases x with rfl | ⟨_, e⟩; rfl; rw [e]
noncomputable def Keep (ρ : Rho) (h h' : Heap) : Prop := ∀ b o, h.get? b = some o → ¬ Owned ρ b → ∃ o', h'.get? b = some o' ∧ SameUp o o'
theorem Keep.exact {ρ : Rho} {h h' : Heap} (k : Keep ρ h h') {b : Addr} {o : Obj} (e : h.get? b = some o) (n : ¬ Owned ρ b) (c : ∀ es n, o.data ≠ .dict es n) : h'.get? b = some o := by
  obtain ⟨o', e', u⟩ := k b o e n
  rw [e', u.exact c]
noncomputable def Fixed (o : Obj) : Prop := (o.cls = .type "tuple" ∧ ∃ xs n, o.data = .seq xs n) ∨ (o.cls = .type "range" ∧ ∃ vs, o.data = .fields vs)
noncomputable def IsExcO (o : Obj) (C : Addr) : Prop := o.cls = .ref C ∧ (∃ vs, o.data = .fields vs) ∧ o.dict = none
theorem Fixed.notDict {o : Obj} (f : Fixed o) (es : Array DictEntry) (n : Nat) : o.data ≠ .dict es n := by
  rcases f with ⟨_, xs, k, e⟩ | ⟨_, vs, e⟩ <;> rw [e] <;> exact fun q => nomatch q
theorem IsExcO.notDict {o : Obj} {C : Addr} (f : IsExcO o C) (es : Array DictEntry) (n : Nat) : o.data ≠ .dict es n := by
  obtain ⟨_, ⟨vs, e⟩, _⟩ := f
  rw [e]; exact fun q => nomatch q
theorem Grow.refl (ρ : Rho) (h : Heap) : Grow ρ h ρ := ⟨[], by simp, by simp⟩
theorem Grow.owned {ρ ρ' : Rho} {h : Heap} (g : Grow ρ h ρ') {a : Addr} (o : Owned ρ' a) : Owned ρ a ∨ h.get? a = none := by
  obtain ⟨e, rfl, he⟩ := g
  obtain ⟨p, hp, hpa⟩ := o
  rcases List.mem_append.mp hp with hp | hp
  · exact .inl ⟨p, hp, hpa⟩
  · right
    rcases hpa with rfl | rfl
    · exact (he p hp).1
    · exact (he p hp).2
theorem Grow.sub {ρ ρ' : Rho} {h : Heap} (g : Grow ρ h ρ') {a : Addr} (o : Owned ρ a) : Owned ρ' a := by
  obtain ⟨e, rfl, he⟩ := g
  obtain ⟨p, hp, hpa⟩ := o
  exact ⟨p, List.mem_append.mpr (.inl hp), hpa⟩
theorem Grow.get {ρ ρ' : Rho} {h : Heap} (g : Grow ρ h ρ') {l : Nat} {p : Addr × Addr} (e : ρ[l]? = some p) : ρ'[l]? = some p := by
  obtain ⟨e', rfl, he⟩ := g
  obtain ⟨hl, _⟩ := List.getElem?_eq_some_iff.mp e
  rw [List.getElem?_append_left hl, e]
theorem Grow.not {ρ ρ' : Rho} {h : Heap} (g : Grow ρ h ρ') {a : Addr} {o : Obj} (n : ¬ Owned ρ a) (e : h.get? a = some o) : ¬ Owned ρ' a := fun w => by
  rcases g.owned w with w | w
  · exact n w
  · rw [e] at w; cases w
theorem Grow.trans {ρ ρ' ρ'' : Rho} {h h' : Heap} (x : Grow ρ h ρ') (y : Grow ρ' h' ρ'') (z : Live h h') : Grow ρ h ρ'' := by
  obtain ⟨e1, rfl, h1⟩ := x
  obtain ⟨e2, rfl, h2⟩ := y
  refine ⟨e1 ++ e2, by rw [List.append_assoc], fun p hp => ?_⟩
  rcases List.mem_append.mp hp with hp | hp
  · exact h1 p hp
  · exact ⟨z.none (h2 p hp).1, z.none (h2 p hp).2⟩
structure Step (ρ : Rho) (h : Heap) (ρ' : Rho) (h' : Heap) : Prop where
  more : ∃ e, ρ' = ρ ++ e
  keepT : ∀ b o, h.get? b = some o → Fixed o → ¬ Owned ρ b → h'.get? b = some o ∧ ¬ Owned ρ' b
  keepC : ∀ b o C, h.get? b = some o → IsExcO o C → ¬ Owned ρ b → ∃ o', h'.get? b = some o' ∧ IsExcO o' C ∧ ¬ Owned ρ' b
theorem Step.get {ρ ρ' : Rho} {h h' : Heap} (st : Step ρ h ρ' h') {l : Nat} {p : Addr × Addr} (e : ρ[l]? = some p) : ρ'[l]? = some p := by
  obtain ⟨e', rfl⟩ := st.more
  obtain ⟨hl, _⟩ := List.getElem?_eq_some_iff.mp e
  rw [List.getElem?_append_left hl, e]
structure Full (ρ : Rho) (h : Heap) (ρ' : Rho) (h' : Heap) : Prop where
  grow : Grow ρ h ρ'
  keep : Keep ρ h h'
  live : Live h h'
theorem Full.step {ρ ρ' : Rho} {h h' : Heap} (x : Full ρ h ρ' h') : Step ρ h ρ' h' :=
  ⟨let ⟨e, h1, _⟩ := x.grow; ⟨e, h1⟩, fun b o e f n => ⟨x.keep.exact e n f.notDict, x.grow.not n e⟩, fun b o C e c n => ⟨o, x.keep.exact e n c.notDict, c, x.grow.not n e⟩⟩
theorem Full.refl (ρ : Rho) (h : Heap) : Full ρ h ρ h := ⟨Grow.refl ρ h, fun _ o e _ => ⟨o, e, .refl o⟩, .refl h⟩
theorem Step.refl (ρ : Rho) (h : Heap) : Step ρ h ρ h := (Full.refl ρ h).step
theorem Full.trans {ρ ρ' ρ'' : Rho} {h h' h'' : Heap} (x : Full ρ h ρ' h') (y : Full ρ' h' ρ'' h'') : Full ρ h ρ'' h'' :=
  ⟨x.grow.trans y.grow x.live, fun b o e n => by
      obtain ⟨o', e', u⟩ := x.keep b o e n
      obtain ⟨o'', e'', u'⟩ := y.keep b o' e' (x.grow.not n e)
      exact ⟨o'', e'', u.trans u'⟩, x.live.trans y.live⟩
theorem Full.more {ρ : Rho} {h h' : Heap} (k : ∀ b o, h.get? b = some o → h'.get? b = some o) : Full ρ h ρ h' :=
  ⟨Grow.refl ρ h, fun b o e _ => ⟨o, k b o e, .refl o⟩, fun b o e => ⟨o, k b o e⟩⟩
theorem Full.push (ρ : Rho) (h : Heap) (o : Obj) : Full ρ h ρ (h.push o) := Full.more fun _ _ e => Heap.get?_push_of_some _ e
theorem Full.alloc {ρ : Rho} {h h' : Heap} {p : Addr × Addr} (k : ∀ b o, h.get? b = some o → h'.get? b = some o) (hp : h.get? p.1 = none ∧ h.get? p.2 = none) : Full ρ h (ρ ++ [p]) h' :=
  ⟨⟨[p], rfl, fun q hq => by rw [List.mem_singleton.mp hq]; exact hp⟩, fun b o e _ => ⟨o, k b o e, .refl o⟩, fun b o e => ⟨o, k b o e⟩⟩
theorem Step.ext {ρ : Rho} {h h' : Heap} {a : Addr} {o : Obj} (e : h.get? a = some o) (hs : Heap.ExtBut a h h') (n1 : ¬ Fixed o) (n2 : ∀ C, ¬ IsExcO o C) : Step ρ h ρ h' :=
  ⟨⟨[], by simp⟩, fun b ob eb f no => ⟨hs b ob (fun q => by subst q; rw [e] at eb; cases eb; exact n1 f) eb, no⟩,
    fun b ob C eb c no => ⟨ob, hs b ob (fun q => by subst q; rw [e] at eb; cases eb; exact n2 C c) eb, c, no⟩⟩
theorem SameBut.live {h h' : Heap} {a : Addr} {o' : Obj} (hs : Heap.SameBut a h h') (e' : h'.get? a = some o') : Live h h' := fun b o e => by
  by_cases q : b = a
  · subst q; exact ⟨o', e'⟩
  · exact ⟨o, by rw [hs.2 b q]; exact e⟩
theorem Step.but {ρ : Rho} {h h' : Heap} {a : Addr} {o o' : Obj} (e' : h'.get? a = some o') (e : h.get? a = some o) (hs : Heap.SameBut a h h') (n1 : ¬ Fixed o) (n2 : ∀ C, ¬ IsExcO o C) : Step ρ h ρ h' :=
  ⟨⟨[], by simp⟩, fun b ob eb f no => by
      by_cases q : b = a
      · subst q; rw [e] at eb; cases eb; exact absurd f n1
      · rw [hs.2 b q]; exact ⟨eb, no⟩,
    fun b ob C eb c no => by
      by_cases q : b = a
      · subst q; rw [e] at eb; cases eb; exact absurd c (n2 C)
      · exact ⟨ob, by rw [hs.2 b q]; exact eb, c, no⟩⟩
theorem Full.own {ρ : Rho} {h h' : Heap} {a : Addr} {o' : Obj} (o : Owned ρ a) (e' : h'.get? a = some o') (hs : Heap.SameBut a h h') : Full ρ h ρ h' :=
  ⟨Grow.refl ρ h, fun b ob eb n => by
      have q : b ≠ a := fun q => n (q ▸ o)
      exact ⟨ob, by rw [hs.2 b q]; exact eb, .refl ob⟩, SameBut.live hs e'⟩
structure Cx where
  prog : Program
  w : World
  T : Tab
  s₀ : Shared
  cls : List Value
  attrs : List Str
  fns : List Addr
noncomputable def Cx.h₀ (cx : Cx) : Heap := cx.s₀.heap
noncomputable def listO (vs : List Value) (n : Nat) : Obj := { cls := .type "list", dict := none, data := .seq vs.toArray n, slots := #[] }
noncomputable def tupO (vs : List Value) (n : Nat) : Obj := { cls := .type "tuple", dict := none, data := .seq vs.toArray n, slots := #[] }
mutual
inductive VR (cx : Cx) (ρ : Rho) (h : Heap) : Val → Value → Prop
  | none : VR cx ρ h .none .none
  | bool (b : Bool) : VR cx ρ h (.bool b) (.bool b)
  | int (i : Int) (t : Tok) : VR cx ρ h (.int i) (.int i t)
  | str (s : Str) (t : Tok) : s.length ≤ sizeLine → VR cx ρ h (.str s) (.str s t)
  | tup {a : Addr} {vs : List Value} {n : Nat} {ms : List Val} : h.get? a = some (tupO vs n) → ¬ Owned ρ a → ms.length ≤ sizeLine → VRs cx ρ h ms vs → VR cx ρ h (.tup ms) (.ref a)
  | loc {l : Nat} {p : Addr × Addr} : ρ[l]? = some p → VR cx ρ h (.loc l) (.ref p.1)
  | script {a : Addr} {vs : List Value} {n : Nat} {ns : List Int} : cx.h₀.get? a = some (listO vs n) → ns.length ≤ sizeLine → VRs cx ρ h (ns.map .int) vs → VR cx ρ h (.script ns) (.ref a)
  | rng {a : Addr} {i : Int} {t u v : Tok} : IsRange h a 0 i 1 t u v → ¬ Owned ρ a → -(2 ^ 62) ≤ i → i < 2 ^ 62 → VR cx ρ h (.rng i) (.ref a)
  | exc {a : Addr} {o : Obj} {c : Nat} {C : Addr} : h.get? a = some o → ¬ Owned ρ a → cx.cls[c]? = some (.ref C) → IsExcO o C → VR cx ρ h (.exc c) (.ref a)
inductive VRs (cx : Cx) (ρ : Rho) (h : Heap) : List Val → List Value → Prop
  | nil : VRs cx ρ h [] []
  | cons {m : Val} {v : Value} {ms : List Val} {vs : List Value} : VR cx ρ h m v → VRs cx ρ h ms vs → VRs cx ρ h (m :: ms) (v :: vs)
end
theorem VRs.step {cx : Cx} {ρ ρ' : Rho} {h h' : Heap} (st : Step ρ h ρ' h') {ms : List Val} {vs : List Value} (r : VRs cx ρ h ms vs) : VRs cx ρ' h' ms vs :=
  VRs.rec (motive_1 := fun m v _ => VR cx ρ' h' m v) (motive_2 := fun ms vs _ => VRs cx ρ' h' ms vs) .none .bool .int .str
    (fun e n z _ r => .tup (st.keepT _ _ e (.inl ⟨rfl, _, _, rfl⟩) n).1 (st.keepT _ _ e (.inl ⟨rfl, _, _, rfl⟩) n).2 z r)
    (fun e => .loc (st.get e)) (fun e z _ r => .script e z r)
    (fun e n z1 z2 => .rng (st.keepT _ _ e (.inr ⟨rfl, _, rfl⟩) n).1 (st.keepT _ _ e (.inr ⟨rfl, _, rfl⟩) n).2 z1 z2)
    (fun e n k c => (st.keepC _ _ _ e c n).elim fun o' w => .exc w.1 w.2.2 k w.2.1) .nil (fun _ _ a r => .cons a r) r
theorem VRs.head {cx : Cx} {ρ : Rho} {h : Heap} {m : Val} {v : Value} {ms : List Val} {vs : List Value} (r : VRs cx ρ h (m :: ms) (v :: vs)) : VR cx ρ h m v := by
  cases r; assumption
theorem VR.step {cx : Cx} {ρ ρ' : Rho} {h h' : Heap} (st : Step ρ h ρ' h') {m : Val} {v : Value} (x : VR cx ρ h m v) : VR cx ρ' h' m v := (VRs.step st (.cons x .nil)).head
section
variable {cx : Cx} {ρ : Rho} {h : Heap} {ms ms' : List Val} {vs vs' : List Value} {m : Val} {v : Value}
theorem VRs.length (r : VRs cx ρ h ms vs) : ms.length = vs.length := by
  induction ms generalizing vs with
  | nil => cases r; rfl
  | cons m ms ih => cases r with | cons a r => rw [List.length_cons, List.length_cons, ih r]
theorem VRs.append (r : VRs cx ρ h ms vs) (r' : VRs cx ρ h ms' vs') : VRs cx ρ h (ms ++ ms') (vs ++ vs') := by
  induction ms generalizing vs with
  | nil => cases r; exact r'
  | cons m ms ih => cases r with | cons a r => exact .cons a (ih r)
theorem VRs.get (r : VRs cx ρ h ms vs) {k : Nat} (e : ms[k]? = some m) : ∃ v, vs[k]? = some v ∧ VR cx ρ h m v := by
  induction ms generalizing vs k with
  | nil => simp at e
  | cons m' ms ih =>
    cases r with
    | cons a r =>
      cases k with
      | zero => simp at e; refine e ▸ ?_; exact ⟨_, by simp, a⟩
      | succ k => simp at e; obtain ⟨v, hv, hr⟩ := ih r e; exact ⟨v, by simpa using hv, hr⟩
theorem VRs.one (r : VR cx ρ h m v) : VRs cx ρ h [m] [v] := .cons r .nil
theorem VRs.set (r : VRs cx ρ h ms vs) (k : Nat) (a : VR cx ρ h m v) : VRs cx ρ h (ms.set k m) (vs.set k v) := by
  induction ms generalizing vs k with
  | nil => cases r; exact .nil
  | cons m' ms ih =>
    cases r with
    | cons b r =>
      cases k with
      | zero => exact .cons a r
      | succ k => exact .cons b (ih r k)
theorem VRs.take (r : VRs cx ρ h ms vs) (k : Nat) : VRs cx ρ h (ms.take k) (vs.take k) := by
  induction ms generalizing vs k with
  | nil => cases r; simp; exact .nil
  | cons m' ms ih =>
    cases r with
    | cons b r =>
      cases k with
      | zero => exact .nil
      | succ k => exact .cons b (ih r k)
theorem VRs.drop (r : VRs cx ρ h ms vs) (k : Nat) : VRs cx ρ h (ms.drop k) (vs.drop k) := by
  induction ms generalizing vs k with
  | nil => cases r; simp; exact .nil
  | cons m' ms ih =>
    cases r with
    | cons b r =>
      cases k with
      | zero => exact .cons b r
      | succ k => exact ih r k
theorem VRs.replicate (a : VR cx ρ h m v) (n : Nat) : VRs cx ρ h (List.replicate n m) (List.replicate n v) := by
  induction n with
  | zero => exact .nil
  | succ n ih => exact .cons a ih
end
noncomputable abbrev cellKind (cx : Cx) : HeapKind cx.prog cx.w (List Int) := tupleKind (intKind cx.prog cx.w)
inductive DRs (cx : Cx) (ρ : Rho) (h : Heap) : List (Key × Val) → List (List Int × Addr × Value) → Prop
  | nil : DRs cx ρ h [] []
  | cons {k : Key} {v : Val} {b : Addr} {x : Value} {es : List (Key × Val)} {xs : List (List Int × Addr × Value)} :
      VR cx ρ h v x → ¬ Owned ρ b → DRs cx ρ h es xs → DRs cx ρ h ((k, v) :: es) (([k.1, k.2], b, x) :: xs)
theorem DRs.step {cx : Cx} {ρ ρ' : Rho} {h h' : Heap} (st : Step ρ h ρ' h') {es : List (Key × Val)} {xs : List (List Int × Addr × Value)} (hk : ∀ x ∈ xs, (cellKind cx).is h x.1 x.2.1) (r : DRs cx ρ h es xs) : DRs cx ρ' h' es xs := by
  induction r with
  | nil => exact .nil
  | @cons k v b x es xs a n _ ih =>
    refine .cons (a.step st) ?_ (ih fun x hx => hk x (.tail _ hx))
    obtain ⟨o, _, _, ho, hc, hd, _⟩ := hk _ (.head _)
    exact (st.keepT _ _ ho (.inl ⟨hc, _, _, hd⟩) n).2
inductive HR (cx : Cx) (ρ : Rho) (h : Heap) : HObj → Addr × Addr → Prop
  | list {a : Addr} {vs : List Value} {n : Nat} {xs : List Val} : h.get? a = some (listO vs n) → VRs cx ρ h xs vs → xs.length ≤ sizeLine → HR cx ρ h (.list xs) (a, a)
  | dict {a : Addr} {es : List (Key × Val)} {xs : List (List Int × Addr × Value)} : h.DictOfH (cellKind cx) a xs → DRs cx ρ h es xs → es.length ≤ sizeLine → HR cx ρ h (.dict es) (a, a)
  | inst {a d C : Addr} {o : Obj} {c : Nat} {fs : List (Nat × Val)} {mA : Str → Option Value} : (cx.T.meth c 0).isSome = true → cx.cls[c]? = some (.ref C) → h.get? a = some o → o.cls = .ref C → (∀ c, o.data ≠ .cls c) → o.dict = some d → d ≠ a → h.Ns1 d mA →
      (∀ n v, fs.lookup n = some v → ∃ y x, cx.attrs[n]? = some y ∧ mA y = some x ∧ VR cx ρ h v x) →
      (∀ y, mA y ≠ none → ∃ n v, cx.attrs[n]? = some y ∧ fs.lookup n = some v) →
      HR cx ρ h (.inst c fs) (a, d)
  | hid {a : Addr} {x y : Value} : h.get? a = some (tupO [x, y] 0) → HR cx ρ h .hid (a, a)
structure Rel (cx : Cx) (H : Hp) (ρ : Rho) (s : Shared) : Prop where
  len : H.length = ρ.length
  objs : ∀ (l : Nat) (o : HObj) (p : Addr × Addr), H[l]? = some o → ρ[l]? = some p → HR cx ρ s.heap o p
  apart : ∀ (i j : Nat) (p q : Addr × Addr), i ≠ j → ρ[i]? = some p → ρ[j]? = some q → (p.1 ≠ q.1 ∧ p.1 ≠ q.2) ∧ (p.2 ≠ q.1 ∧ p.2 ≠ q.2)
  new : ∀ p ∈ ρ, cx.h₀.get? p.1 = none ∧ cx.h₀.get? p.2 = none
  base : ∀ b o, cx.h₀.get? b = some o → s.heap.get? b = some o
  sys : ∃ o, cx.h₀.get? sysModules = some o
  rest : ∃ h tk, s = { cx.s₀ with heap := h, toks := tk }
theorem Rel.size {cx : Cx} {H : Hp} {ρ : Rho} {s : Shared} (R : Rel cx H ρ s) : ∀ p ∈ ρ, (∃ o, s.heap.get? p.1 = some o) ∧ ∃ o, s.heap.get? p.2 = some o := by
  intro p hp
  obtain ⟨l, hl, e⟩ := List.mem_iff_getElem.mp hp
  have e' : ρ[l]? = some p := by rw [List.getElem?_eq_getElem hl, e]
  have hH : l < H.length := by rw [R.len]; exact hl
  obtain ⟨ob, hob⟩ : ∃ ob, H[l]? = some ob := ⟨_, List.getElem?_eq_getElem hH⟩
  have := R.objs l ob p hob e'
  clear e e'
  cases this with
  | list q _ _ => exact ⟨⟨_, q⟩, _, q⟩
  | dict q _ _ => obtain ⟨o, _, _, q, _⟩ := q; exact ⟨⟨_, q⟩, _, q⟩
  | inst _ _ q _ _ _ _ n _ _ => obtain ⟨o', _, _, q', _⟩ := n; exact ⟨⟨_, q⟩, _, q'⟩
  | hid q => exact ⟨⟨_, q⟩, _, q⟩
theorem Rel.owned_lt {cx : Cx} {H : Hp} {ρ : Rho} {s : Shared} (R : Rel cx H ρ s) {a : Addr} (o : Owned ρ a) : ∃ o, s.heap.get? a = some o := by
  obtain ⟨p, hp, rfl | rfl⟩ := o
  · exact (R.size p hp).1
  · exact (R.size p hp).2
theorem Rel.owned_new {cx : Cx} {H : Hp} {ρ : Rho} {s : Shared} (R : Rel cx H ρ s) {a : Addr} (o : Owned ρ a) : cx.h₀.get? a = none := by
  obtain ⟨p, hp, rfl | rfl⟩ := o
  · exact (R.new p hp).1
  · exact (R.new p hp).2
theorem Rel.base_not {cx : Cx} {H : Hp} {ρ : Rho} {s : Shared} (R : Rel cx H ρ s) {a : Addr} {o : Obj} (e : cx.h₀.get? a = some o) : ¬ Owned ρ a := fun w => by rw [R.owned_new w] at e; exact no_some e
theorem HR.step {cx : Cx} {ρ ρ' : Rho} {h h' : Heap} {o : HObj} {p : Addr × Addr} (x : HR cx ρ h o p) (st : Step ρ h ρ' h') (k : ∀ b ob, (b = p.1 ∨ b = p.2) → h.get? b = some ob → h'.get? b = some ob) : HR cx ρ' h' o p := by
  cases x with
  | list e r z => exact .list (k _ _ (.inl rfl) e) (r.step st) z
  | @dict a es xs D r z =>
    obtain ⟨ob, es', ep, e, ex, d, el, ks, nd⟩ := D
    have ks' : ∀ x ∈ xs, (cellKind cx).is h' x.1 x.2.1 := by
      intro x hx
      obtain ⟨ok, items, n, hk, hc, hd', rest⟩ := ks x hx
      refine ⟨ok, items, n, (st.keepT _ _ hk (.inl ⟨hc, _, _, hd'⟩) ?_).1, hc, hd', rest⟩
      clear rest el nd z ks d ex e k
      induction r with
      | nil => cases hx
      | cons a n _ ih =>
        cases hx with
        | head => exact n
        | tail _ hx => exact ih hx
    exact .dict ⟨ob, es', ep, k _ _ (.inl rfl) e, ex, d, el, ks', nd⟩ (r.step st ks) z
  | hid e => exact .hid (k _ _ (.inl rfl) e)
  | inst c0 c e k1 k2 k3 k4 n f g =>
    refine .inst c0 c (k _ _ (.inl rfl) e) k1 k2 k3 k4 (n.at fun o e => k _ _ (.inr rfl) e) (fun i v hv => ?_) g
    refine hideG fun G kG => ?_
    obtain ⟨y, x, h1, h2, h3⟩ := f i v hv
    refine kG ?_
    exact ⟨y, x, h1, h2, h3.step st⟩
section
variable {cx : Cx} {H : Hp} {ρ : Rho} {s : Shared}
theorem Rel.same (R : Rel cx H ρ s) {h' : Heap} {tk : Nat} (st : Step ρ s.heap ρ h') (ko : ∀ b o, Owned ρ b → s.heap.get? b = some o → h'.get? b = some o) (kb : ∀ b o, cx.h₀.get? b = some o → h'.get? b = some o) :
    Rel cx H ρ { s with heap := h', toks := tk } := by
  refine ⟨R.len, fun l o p hl hp => ?_, R.apart, R.new, kb, R.sys, ?_⟩
  · refine (R.objs l o p hl hp).step st fun b ob hb e => ko b ob ⟨p, List.mem_of_getElem? hp, hb⟩ e
  · obtain ⟨h, t, hr0⟩ := R.rest; refine Eq.symm hr0 ▸ ?_
    exact ⟨h', tk, rfl⟩
theorem Rel.toks (R : Rel cx H ρ s) (tk : Nat) : Rel cx H ρ { s with toks := tk } :=
  R.same (h' := s.heap) (Step.refl _ _) (fun _ _ _ e => e) R.base
theorem Rel.more (R : Rel cx H ρ s) {h' : Heap} {tk : Nat} (k : ∀ b o, s.heap.get? b = some o → h'.get? b = some o) : Rel cx H ρ { s with heap := h', toks := tk } :=
  R.same (Full.more k).step (fun b o _ e => k b o e) fun b o e => k b o (R.base b o e)
theorem Rel.push (R : Rel cx H ρ s) (o : Obj) (tk : Nat) : Rel cx H ρ { s with heap := s.heap.push o, toks := tk } :=
  R.more fun _ _ e => Heap.get?_push_of_some _ e
theorem Rel.but (R : Rel cx H ρ s) {h' : Heap} {tk : Nat} {a : Addr} {o : Obj} {o' : Obj} (e' : h'.get? a = some o') (e : s.heap.get? a = some o) (hs : Heap.SameBut a s.heap h') (n1 : ¬ Fixed o) (n2 : ∀ C, ¬ IsExcO o C) (no : ¬ Owned ρ a) (nb : cx.h₀.get? a = none) :
    Rel cx H ρ { s with heap := h', toks := tk } :=
  R.same (Step.but e' e hs n1 n2) (fun b ob ho eb => by rw [hs.2 b (fun q => no (q ▸ ho))]; exact eb) fun b ob eb => by
    rw [hs.2 b (fun q => by subst q; rw [nb] at eb; exact nomatch eb)]; exact R.base b ob eb
theorem Rel.fresh_not (R : Rel cx H ρ s) {a : Addr} (ha : s.heap.get? a = none) : ¬ Owned ρ a := fun w => by obtain ⟨o, e⟩ := R.owned_lt w; rw [ha] at e; exact no_some e
theorem Rel.alloc (R : Rel cx H ρ s) {h' : Heap} {tk : Nat} {o : HObj} {p : Addr × Addr} (k : ∀ b o, s.heap.get? b = some o → h'.get? b = some o)
    (hp : s.heap.get? p.1 = none ∧ s.heap.get? p.2 = none) (x : HR cx (ρ ++ [p]) h' o p) : Full ρ s.heap (ρ ++ [p]) h' ∧ Rel cx (H ++ [o]) (ρ ++ [p]) { s with heap := h', toks := tk } := by
  have F : Full ρ s.heap (ρ ++ [p]) h' := ⟨⟨[p], rfl, fun q hq => by rw [List.mem_singleton.mp hq]; exact hp⟩, fun b o e _ => ⟨o, k b o e, .refl o⟩, fun b o e => ⟨o, k b o e⟩⟩
  refine ⟨F, ⟨by rw [List.length_append, List.length_append, R.len]; rfl, fun l ob q hl hq => ?_, fun i j q r hij hi hj => ?_, fun q hq => ?_, fun b o e => k b o (R.base b o e), R.sys, ?_⟩⟩
  · by_cases lt : l < H.length
    · rw [List.getElem?_append_left lt] at hl
      rw [List.getElem?_append_left (by rw [← R.len]; exact lt)] at hq
      exact (R.objs l ob q hl hq).step F.step fun b ob _ e => k b ob e
    · have hl' := (List.getElem?_eq_some_iff.mp hl).1
      have le : l = H.length := by rw [List.length_append] at hl'; simp at hl'; omega
      subst le
      rw [List.getElem?_append_right (Nat.le_refl _)] at hl
      rw [List.getElem?_append_right (by rw [R.len]; exact Nat.le_refl _)] at hq
      rw [R.len] at hq
      simp at hl hq
      subst hl hq
      exact x
  · have old : ∀ {i : Nat} {q : Addr × Addr}, ρ[i]? = some q → (∃ o, s.heap.get? q.1 = some o) ∧ ∃ o, s.heap.get? q.2 = some o := fun h => R.size _ (List.mem_of_getElem? h)
    have ne : ∀ {a b : Addr}, (∃ o, s.heap.get? a = some o) → s.heap.get? b = none → a ≠ b := fun ⟨o, e⟩ n q => by rw [q, n] at e; exact no_some e
    have at' : ∀ {i : Nat} {q : Addr × Addr}, (ρ ++ [p])[i]? = some q → ρ[i]? = some q ∨ (i = ρ.length ∧ q = p) := by
      intro i q h
      by_cases lt : i < ρ.length
      · rw [List.getElem?_append_left lt] at h; exact .inl h
      · have hl' := (List.getElem?_eq_some_iff.mp h).1
        have le : i = ρ.length := by rw [List.length_append] at hl'; simp at hl'; omega
        subst le
        rw [List.getElem?_append_right (Nat.le_refl _)] at h
        simp at h
        exact .inr ⟨rfl, h.symm⟩
    rcases at' hi with hi' | ⟨hi', eq⟩ <;> rcases at' hj with hj' | ⟨hj', er⟩
    · exact R.apart i j q r hij hi' hj'
    · have q := old hi'; rw [er]; exact ⟨⟨ne q.1 hp.1, ne q.1 hp.2⟩, ne q.2 hp.1, ne q.2 hp.2⟩
    · have q := old hj'; rw [eq]; exact ⟨⟨(ne q.1 hp.1).symm, (ne q.2 hp.1).symm⟩, (ne q.1 hp.2).symm, (ne q.2 hp.2).symm⟩
    · exact absurd (hi'.trans hj'.symm) hij
  · rcases List.mem_append.mp hq with hq | hq
    · exact R.new q hq
    · have lv : Live cx.h₀ s.heap := fun b o e => ⟨o, R.base b o e⟩
      rw [List.mem_singleton.mp hq]; exact ⟨lv.none hp.1, lv.none hp.2⟩
  · obtain ⟨h, t, hr0⟩ := R.rest; refine Eq.symm hr0 ▸ ?_
    exact ⟨h', tk, rfl⟩
theorem Rel.set (R : Rel cx H ρ s) {l : Nat} {h' : Heap} {tk : Nat} {o : HObj} {p : Addr × Addr} (hl : ρ[l]? = some p) (k : ∀ b o, s.heap.get? b = some o → b ≠ p.1 → b ≠ p.2 → h'.get? b = some o) (z : Live s.heap h')
    (x : HR cx ρ h' o p) : Full ρ s.heap ρ h' ∧ Rel cx (H.set l o) ρ { s with heap := h', toks := tk } := by
  have own : ∀ b, ¬ Owned ρ b → b ≠ p.1 ∧ b ≠ p.2 := fun b n => ⟨fun e => n ⟨p, List.mem_of_getElem? hl, .inl e⟩, fun e => n ⟨p, List.mem_of_getElem? hl, .inr e⟩⟩
  have F : Full ρ s.heap ρ h' := ⟨Grow.refl _ _, fun b ob e n => ⟨ob, k b ob e (own b n).1 (own b n).2, .refl ob⟩, z⟩
  refine ⟨F, ⟨by rw [List.length_set, R.len], fun i ob q hi hq => ?_, R.apart, R.new, fun b ob e => ?_, R.sys, ?_⟩⟩
  · by_cases e : i = l
    · subst e
      rw [hl] at hq; cases hq
      have lt : i < H.length := by rw [R.len]; exact (List.getElem?_eq_some_iff.mp hl).1
      rw [List.getElem?_set_self lt] at hi
      cases hi; exact x
    · rw [List.getElem?_set_ne (fun q => e q.symm)] at hi
      refine (R.objs i ob q hi hq).step F.step fun b ob' hb eb => ?_
      obtain ⟨⟨a1, a2⟩, a3, a4⟩ := R.apart i l q p e hq hl
      rcases hb with rfl | rfl
      · exact k _ _ eb a1 a2
      · exact k _ _ eb a3 a4
  · have n := R.base_not e
    exact k b ob (R.base b ob e) (own b n).1 (own b n).2
  · obtain ⟨h, t, hr0⟩ := R.rest; refine Eq.symm hr0 ▸ ?_
    exact ⟨h', tk, rfl⟩
end
end Mine
-- part MSim
namespace Mine
open PySem
structure Amb where
  P : Rho → Heap → Prop
  st : ∀ ρ h ρ' h', P ρ h → Full ρ h ρ' h' → P ρ' h'
noncomputable def Amb.and (P Q : Amb) : Amb := ⟨fun ρ h => P.P ρ h ∧ Q.P ρ h, fun ρ h ρ' h' x f => ⟨P.st _ _ _ _ x.1 f, Q.st _ _ _ _ x.2 f⟩⟩
noncomputable def Amb.tt : Amb := ⟨fun _ _ => True, fun _ _ _ _ _ _ => trivial⟩
noncomputable def Amb.prop (p : Prop) : Amb := ⟨fun _ _ => p, fun _ _ _ _ x _ => x⟩
noncomputable def Amb.vr (cx : Cx) (m : Val) (v : Value) : Amb := ⟨fun ρ h => VR cx ρ h m v, fun _ _ _ _ x f => x.step f.step⟩
noncomputable def Amb.vrs (cx : Cx) (ms : List Val) (vs : List Value) : Amb := ⟨fun ρ h => VRs cx ρ h ms vs, fun _ _ _ _ x f => x.step f.step⟩
structure Flying (cx : Cx) (ρ : Rho) (h h' : Heap) (c : Nat) (e : Value) : Prop where
  is : ∃ (a C : Addr) (vs : Array Value), e = .ref a ∧ cx.cls[c]? = some (.ref C) ∧ h.get? a = none ∧ h'.get? a = some { cls := .ref C, dict := none, data := .fields vs, slots := #[] } ∧ vs.size = 6 ∧ ¬ Owned ρ a ∧
    (vs[1]? = some .none ∨ ∃ (tb : Addr) (tvs : Array Value), vs[1]? = some (.ref tb) ∧ h.get? tb = none ∧ h'.get? tb = some { cls := .type "traceback", dict := none, data := .fields tvs, slots := #[] } ∧ tvs.size = 11 ∧ ¬ Owned ρ tb)
theorem Flying.older {cx : Cx} {ρ : Rho} {h₁ h h' : Heap} {c : Nat} {e : Value} (x : Flying cx ρ h h' c e) (z : Live h₁ h) : Flying cx ρ h₁ h' c e := by
  obtain ⟨a, C, vs, e1, e2, e3, e4, e5, e6, e7⟩ := x.is
  refine ⟨a, C, vs, e1, e2, z.none e3, e4, e5, e6, ?_⟩
  rcases e7 with e7 | ⟨tb, tvs, f1, f2, f3⟩
  · exact .inl e7
  · exact .inr ⟨tb, tvs, f1, z.none f2, f3⟩
noncomputable def SimAt {α β : Type} (cx : Cx) (A : Around) (r : Res β) (t : Sem α) (V : β → α → Amb) (ρ : Rho) (s : Shared) : Prop :=
  match r with
  | .bad => True
  | .ok b H' => wpAny (model cx.prog cx.w) A t (fun a s' => ∃ ρ', Full ρ s.heap ρ' s'.heap ∧ Rel cx H' ρ' s' ∧ (V b a).P ρ' s'.heap) (fun _ _ => False) s
  | .exc c H' => wpAny (model cx.prog cx.w) A t (fun _ _ => False) (fun e s' => ∃ ρ', Full ρ s.heap ρ' s'.heap ∧ Rel cx H' ρ' s' ∧ Flying cx ρ' s.heap s'.heap c e) s
noncomputable def Sim {α β : Type} (cx : Cx) (A : Around) (P : Amb) (t : Sem α) (m : M β) (V : β → α → Amb) : Prop :=
  ∀ (H : Hp) (ρ : Rho) (s : Shared), Rel cx H ρ s → P.P ρ s.heap → SimAt cx A (m H) t V ρ s
section
variable {α β γ δ : Type} {cx : Cx} {A : Around} {P : Amb} {t : Sem α} {m : M β} {V : β → α → Amb}
theorem SimAt.bind {f : α → Sem γ} {g : β → M δ} {W : δ → γ → Amb} {ρ : Rho} {s : Shared} {H : Hp} (x : SimAt cx A (m H) t V ρ s)
    (y : ∀ b a H' ρ' s', m H = .ok b H' → Full ρ s.heap ρ' s'.heap → Rel cx H' ρ' s' → (V b a).P ρ' s'.heap → SimAt cx A (g b H') (f a) W ρ' s') :
    SimAt cx A (m.bnd g H) (t >>= f) W ρ s := by
  cases e : m H with
  | bad => rw [bnd_bad e]; trivial
  | exc c H' =>
    rw [bnd_exc e]
    rw [e] at x
    exact wpAny_bind (wpAny_mono x (fun _ _ q => q.elim) fun _ _ q => q)
  | ok b H' =>
    rw [bnd_ok e]
    rw [e] at x
    have y' := y b
    cases e2 : g b H' with
    | bad => trivial
    | exc c H'' =>
      refine wpAny_bind (wpAny_mono x (fun a s' ⟨ρ', F, R, v⟩ => ?_) fun _ _ q => q.elim)
      have z := y b a H' ρ' s' e F R v
      rw [e2] at z
      exact wpAny_mono z (fun _ _ q => q) fun e s'' ⟨ρ'', F', R', fl⟩ => ⟨ρ'', F.trans F', R', fl.older F.live⟩
    | ok d H'' =>
      refine wpAny_bind (wpAny_mono x (fun a s' ⟨ρ', F, R, v⟩ => ?_) fun _ _ q => q.elim)
      have z := y b a H' ρ' s' e F R v
      rw [e2] at z
      exact wpAny_mono z (fun a' s'' ⟨ρ'', F', R', w⟩ => ⟨ρ'', F.trans F', R', w⟩) fun _ _ q => q.elim
theorem Sim.bind {f : α → Sem γ} {g : β → M δ} {W : δ → γ → Amb} (x : Sim cx A P t m V) (y : ∀ b a, Sim cx A (P.and (V b a)) (f a) (g b) W) : Sim cx A P (t >>= f) (m.bnd g) W :=
  fun H ρ s R p => SimAt.bind (x H ρ s R p) fun b a H' ρ' s' _ F R' v => y b a H' ρ' s' R' ⟨P.st _ _ _ _ p F, v⟩
noncomputable def SimK {α β : Type} (cx : Cx) (r : Res β) (K : (α → Shared → Prop) → (Value → Shared → Prop) → Shared → Prop) (V : β → α → Amb) (ρ : Rho) (s : Shared) : Prop :=
  match r with
  | .bad => True
  | .ok b H' => K (fun a s' => ∃ ρ', Full ρ s.heap ρ' s'.heap ∧ Rel cx H' ρ' s' ∧ (V b a).P ρ' s'.heap) (fun _ _ => False) s
  | .exc c H' => K (fun _ _ => False) (fun e s' => ∃ ρ', Full ρ s.heap ρ' s'.heap ∧ Rel cx H' ρ' s' ∧ Flying cx ρ' s.heap s'.heap c e) s
theorem SimK.of {r : Res β} {ρ : Rho} {s : Shared} (x : SimAt cx A r t V ρ s) : SimK cx r (fun Q E s => wpAny (model cx.prog cx.w) A t Q E s) V ρ s := x
noncomputable def MonoK {α : Type} (K : (α → Shared → Prop) → (Value → Shared → Prop) → Shared → Prop) : Prop :=
  ∀ Q E Q' E' s, K Q E s → (∀ a s, Q a s → Q' a s) → (∀ e s, E e s → E' e s) → K Q' E' s
theorem SimAt.bindK {g : β → M δ} {W : δ → γ → Amb} {ρ : Rho} {s : Shared} {H : Hp} {K : α → (γ → Shared → Prop) → (Value → Shared → Prop) → Shared → Prop} {K' : (γ → Shared → Prop) → (Value → Shared → Prop) → Shared → Prop} (x : SimAt cx A (m H) t V ρ s)
    (y : ∀ b a H' ρ' s', m H = .ok b H' → Full ρ s.heap ρ' s'.heap → Rel cx H' ρ' s' → (V b a).P ρ' s'.heap → SimK cx (g b H') (K a) W ρ' s')
    (mk : ∀ a, MonoK (K a))
    (k : ∀ Q E, wpAny (model cx.prog cx.w) A t (fun a s' => K a Q E s') E s → K' Q E s) :
    SimK cx (m.bnd g H) K' W ρ s := by
  cases e : m H with
  | bad => rw [bnd_bad e]; trivial
  | exc c H' =>
    rw [bnd_exc e]
    rw [e] at x
    exact k _ _ (wpAny_mono x (fun _ _ q => q.elim) fun _ _ q => q)
  | ok b H' =>
    rw [bnd_ok e]
    rw [e] at x
    cases e2 : g b H' with
    | bad => trivial
    | exc c H'' =>
      refine k _ _ (wpAny_mono x (fun a s' ⟨ρ', F, R, v⟩ => ?_) fun _ _ q => q.elim)
      have z := y b a H' ρ' s' e F R v
      rw [e2] at z
      exact mk a _ _ _ _ _ z (fun _ _ q => q) fun e s'' ⟨ρ'', F', R', fl⟩ => ⟨ρ'', F.trans F', R', fl.older F.live⟩
    | ok d H'' =>
      refine k _ _ (wpAny_mono x (fun a s' ⟨ρ', F, R, v⟩ => ?_) fun _ _ q => q.elim)
      have z := y b a H' ρ' s' e F R v
      rw [e2] at z
      exact mk a _ _ _ _ _ z (fun a' s'' ⟨ρ'', F', R', w⟩ => ⟨ρ'', F.trans F', R', w⟩) fun _ _ q => q.elim
theorem SimK.lookK {ρ : Rho} {s : Shared} {H : Hp} {f : Hp → Option β} {g : β → M δ} {W : δ → γ → Amb} {K : (γ → Shared → Prop) → (Value → Shared → Prop) → Shared → Prop} (y : ∀ b, f H = some b → SimK cx (g b H) K W ρ s) : SimK cx ((M.look f).bnd g H) K W ρ s := by
  cases e : f H with
  | none => rw [bnd_bad (show M.look f H = .bad by unfold M.look; rw [e])]; trivial
  | some b => rw [bnd_ok (show M.look f H = .ok b H by unfold M.look; rw [e])]; exact y b e
theorem SimK.mono {r : Res β} {ρ : Rho} {s : Shared} {K K' : (α → Shared → Prop) → (Value → Shared → Prop) → Shared → Prop} (x : SimK cx r K V ρ s) (k : ∀ Q E, K Q E s → K' Q E s) : SimK cx r K' V ρ s := by
  cases r with
  | bad => trivial
  | exc c H' => exact k _ _ x
  | ok b H' => exact k _ _ x
theorem Sim.pre {t' : Sem α} (x : Sim cx A P t m V) (k : ∀ (Q : α → Shared → Prop) (E : Value → Shared → Prop) (s : Shared), wpAny (model cx.prog cx.w) A t Q E s → wpAny (model cx.prog cx.w) A t' Q E s) : Sim cx A P t' m V := by
  intro H ρ s R p
  have z := x H ρ s R p
  cases e : m H with
  | bad => trivial
  | exc c H' => rw [e] at z; exact k _ _ _ z
  | ok b H' => rw [e] at z; exact k _ _ _ z
theorem Sim.holding {vs : List Value} (x : Sim cx A P t m V) : Sim cx A P (holding vs t) m V := x.pre fun _ _ _ h => wpAny_holding h
theorem Sim.stand {pos : Pos} {k : Unit → Sem α} (x : Sim cx A P (k ()) m V) : Sim cx A P (standAt pos >>= k) m V := x.pre fun _ _ _ h => wpAny_bind (wpAny_standAt h)
theorem Sim.weak {P' : Amb} (x : Sim cx A P t m V) (k : ∀ ρ h, P'.P ρ h → P.P ρ h) : Sim cx A P' t m V := fun H ρ s R p => x H ρ s R (k _ _ p)
theorem Sim.ret {a : α} {b : β} (k : ∀ ρ h, P.P ρ h → (V b a).P ρ h) : Sim cx A P (pure a) (M.ret b) V :=
  fun H ρ s R p => wpAny_pure ⟨ρ, Full.refl _ _, R, k _ _ p⟩
theorem Sim.bad : Sim cx A P t (M.bad : M β) V := fun _ _ _ _ _ => trivial
theorem Sim.look {f : Hp → Option β} (k : ∀ (H : Hp) (ρ : Rho) (s : Shared) (b : β), Rel cx H ρ s → P.P ρ s.heap → f H = some b →
    ∀ (Q : α → Shared → Prop) (E : Value → Shared → Prop), (∀ a tk, (V b a).P ρ s.heap → Q a { s with toks := tk }) → wpAny (model cx.prog cx.w) A t Q E s) : Sim cx A P t (M.look f) V := by
  intro H ρ s R p
  show SimAt cx A (match f H with | some a => Res.ok a H | none => Res.bad) t V ρ s
  cases e : f H with
  | none => trivial
  | some b => exact k H ρ s b R p e _ _ fun a tk v => ⟨ρ, Full.refl _ _, R.toks tk, v⟩
end
noncomputable def VarIs (env : Env) (h : Heap) (y : Str) (v : Value) : Prop :=
  (env.kindOf y = some .local ∧ ∃ m, h.Ns env.locals m ∧ m y = some v) ∨
  ((env.kindOf y = some .cell ∨ env.kindOf y = some .free) ∧ ∃ c, env.cells.lookup y = some c ∧ h.IsCell c (some v))
noncomputable def KindOk : NameKind → Option NameKind → Prop
  | .local, k => k = some .local
  | .cell, k => k = some .cell
  | .free, k => k = some .free ∨ k = some .cell
  | .globalImplicit, k => k = some .globalImplicit
  | _, _ => True
structure EnvSt (cx : Cx) (env : Env) (sc : Scope) (ρ : Rho) (h : Heap) : Prop where
  fn : env.scope.kind = .function
  glob : env.globals = mainGlobals
  blt : env.builtins = builtinsNs
  kinds : ∀ y k, sc.names.lookup y = some k → KindOk k (env.kindOf y)
  loc : ∃ m, h.Ns env.locals m
  locN : ¬ Owned ρ env.locals
  locB : cx.h₀.get? env.locals = none
  cells : ∀ y c, env.cells.lookup y = some c → (∃ v, h.IsCell c v) ∧ ¬ Owned ρ c ∧ cx.h₀.get? c = none
  hasCell : ∀ y, sc.names.lookup y = some .cell ∨ sc.names.lookup y = some .free → ∃ c, env.cells.lookup y = some c
  apart : ∀ y z c, env.cells.lookup y = some c → env.cells.lookup z = some c → y = z
structure EnvOk (cx : Cx) (env : Env) (sc : Scope) (ns : List (Option Str)) (Γ : Env') (ρ : Rho) (h : Heap) : Prop where
  st : EnvSt cx env sc ρ h
  len : Γ.length = ns.length
  vals : ∀ (i : Nat) (y : Str) (mv : Val), ns[i]? = some (some y) → Γ[i]? = some (some mv) → ∃ v, VarIs env h y v ∧ VR cx ρ h mv v
theorem Heap_Ns_keep {h h' : Heap} {a : Addr} {m : Str → Option Value} (n : h.Ns a m) (k : ∀ o, h.get? a = some o → ∃ o', h'.get? a = some o' ∧ o'.data = o.data) : h'.Ns a m := by
  obtain ⟨o, es, ep, e, d, r⟩ := n
  obtain ⟨o', e', d'⟩ := k o e
  exact ⟨o', es, ep, e', d'.trans d, r⟩
theorem Full.data {ρ ρ' : Rho} {h h' : Heap} (F : Full ρ h ρ' h') {a : Addr} (n : ¬ Owned ρ a) : ∀ o, h.get? a = some o → ∃ o', h'.get? a = some o' ∧ o'.data = o.data := fun o e => by
  obtain ⟨o', e', u⟩ := F.keep a o e n
  exact ⟨o', e', u.data⟩
theorem IsCell_keep {h h' : Heap} {c : Addr} {v : Option Value} (x : h.IsCell c v) (k : ∀ o, h.get? c = some o → ∃ o', h'.get? c = some o' ∧ o'.data = o.data) : h'.IsCell c v := by
  obtain ⟨o, e, d⟩ := x
  obtain ⟨o', e', d'⟩ := k o e
  exact ⟨o', e', d'.trans d⟩
theorem EnvSt.full {cx : Cx} {env : Env} {sc : Scope} {ρ ρ' : Rho} {h h' : Heap} (x : EnvSt cx env sc ρ h) (F : Full ρ h ρ' h') : EnvSt cx env sc ρ' h' := by
  refine hideG fun G kG => ?_
  obtain ⟨m, hm⟩ := x.loc
  obtain ⟨o, es, ep, e, d, r⟩ := id hm
  refine kG ?_
  refine ⟨x.fn, x.glob, x.blt, x.kinds, ⟨m, Heap_Ns_keep hm (F.data x.locN)⟩, F.grow.not x.locN e, x.locB, fun y c hc => ?_, x.hasCell, x.apart⟩
  refine hideG fun G kG => ?_
  obtain ⟨⟨v, hv⟩, n, b⟩ := x.cells y c hc
  obtain ⟨o, e, _⟩ := id hv
  refine kG ?_
  exact ⟨⟨v, IsCell_keep hv (F.data n)⟩, F.grow.not n e, b⟩
theorem VarIs.full {cx : Cx} {env : Env} {sc : Scope} {ρ ρ' : Rho} {h h' : Heap} {y : Str} {v : Value} (x : EnvSt cx env sc ρ h) (F : Full ρ h ρ' h') (q : VarIs env h y v) : VarIs env h' y v := by
  rcases q with ⟨k, m, hm, e⟩ | ⟨k, c, hc, e⟩
  · exact .inl ⟨k, m, Heap_Ns_keep hm (F.data x.locN), e⟩
  · exact .inr ⟨k, c, hc, IsCell_keep e (F.data (x.cells y c hc).2.1)⟩
theorem EnvOk.full {cx : Cx} {env : Env} {sc : Scope} {ns : List (Option Str)} {Γ : Env'} {ρ ρ' : Rho} {h h' : Heap} (x : EnvOk cx env sc ns Γ ρ h) (F : Full ρ h ρ' h') : EnvOk cx env sc ns Γ ρ' h' :=
  ⟨x.st.full F, x.len, fun i y mv hi hm => by
    obtain ⟨v, hv, r⟩ := x.vals i y mv hi hm
    exact ⟨v, hv.full x.st F, r.step F.step⟩⟩
noncomputable def Amb.env (cx : Cx) (env : Env) (sc : Scope) (ns : List (Option Str)) (Γ : Env') : Amb := ⟨fun ρ h => EnvOk cx env sc ns Γ ρ h, fun _ _ _ _ x F => x.full F⟩
noncomputable def FramesOk (cx : Cx) (l : List Env) (ρ : Rho) (h : Heap) : Prop :=
  ∀ env ∈ l, env.scope.kind ≠ .module ∧ ∃ L o, env.frame = some L ∧ cx.h₀.get? L = none ∧ h.get? L = some o ∧ (∃ es n, o.data = .dict es n) ∧ ¬ Owned ρ L
theorem FramesOk.full {cx : Cx} {l : List Env} {ρ ρ' : Rho} {h h' : Heap} (x : FramesOk cx l ρ h) (F : Full ρ h ρ' h') : FramesOk cx l ρ' h' := fun env he => by
  refine hideG fun G kG => ?_
  obtain ⟨k, L, o, h1, h2, h3, h5, h6⟩ := x env he
  obtain ⟨o', e', u⟩ := F.keep L o h3 h6
  refine kG ?_
  exact ⟨k, L, o', h1, h2, e', by rw [u.data]; exact h5, F.grow.not h6 h3⟩
noncomputable def Amb.frames (cx : Cx) (l : List Env) : Amb := ⟨fun ρ h => FramesOk cx l ρ h, fun _ _ _ _ x F => x.full F⟩
structure Room (A : Around) (d : Nat) : Prop where
  hh : A.handled = none
  depth : A.depth + 5 * d + 150 < recursionLimit
  units : A.units + 20 * d + 100 < cLine
structure RoomF (A : Around) (d : Nat) : Prop where
  hh : A.handled = none
  depth : A.depth + 5 * d + 147 < recursionLimit
  units : A.units + 20 * d + 90 < cLine
structure RoomQ (A : Around) (d : Nat) : Prop where
  depth : A.depth + 5 * d + 147 < recursionLimit
  units : A.units + 20 * d + 90 < cLine
theorem RoomF.q {A : Around} {d : Nat} (r : RoomF A d) : RoomQ A d := ⟨r.depth, r.units⟩
theorem Room.toF {A : Around} {d : Nat} (r : Room A d) : RoomF A d := ⟨r.hh, by have := r.depth; omega, by have := r.units; omega⟩
theorem Room.in1 {A : Around} {d : Nat} (r : Room A (d + 1)) : Room A.in1 d := ⟨r.hh, by have := r.depth; simp only [Around.in1_depth]; omega, by have := r.units; simp only [Around.in1_units]; omega⟩
end Mine
-- part MCk
namespace Mine
open PySem
noncomputable def bltTab : List (Str × Value) := [("len", .builtin "len"), ("range", .type "range"), ("isinstance", .builtin "isinstance"), ("list", .type "list"), ("tuple", .type "tuple"), ("int", .type "int"), ("bool", .type "bool"), ("str", .type "str"),
  ("zip", .type "zip"), ("enumerate", .type "enumerate"), ("sorted", .builtin "sorted"), ("min", .builtin "min"), ("max", .builtin "max"), ("abs", .builtin "abs"), ("set", .type "set")]
structure Names where
  funs : List (Str × Nat)
  clss : List (Str × Nat)
  globs : List (Str × Nat)
  attrs : List (Str × Nat)
  meths : List (Str × Nat)
noncomputable def isGlob (sc : Scope) (x : Str) : Bool := decide (sc.names.lookup x = some .globalImplicit) && !(x == ("__debug__" : Str))
noncomputable def isVar (sc : Scope) (ns : List (Option Str)) (i : Nat) (x : Str) : Bool :=
  (decide (sc.names.lookup x = some .local) || (decide (sc.names.lookup x = some .cell) || decide (sc.names.lookup x = some .free))) && (decide (ns[i]? = some (some x)) && (!(x == ("__debug__" : Str)) && !(x == ("__classdict__" : Str))))
noncomputable def isOwn (sc : Scope) (ns : List (Option Str)) (i : Nat) (x : Str) : Bool :=
  (decide (sc.names.lookup x = some .local) || decide (sc.names.lookup x = some .cell)) && decide (ns[i]? = some (some x))
noncomputable def hasNo (l : List (Str × Nat)) (x : Str) (k : Nat) : Bool := decide (l.lookup x = some k)
noncomputable def bOp : BOp → Operator
  | .add => .Add
  | .sub => .Sub
  | .mul => .Mult
  | .fdiv => .FloorDiv
  | .mod => .Mod
noncomputable def opOk (b : BOp) (o : Operator) : Bool := decide (bOp b = o)
noncomputable def cmOp : COp → CmpOp
  | .eq => .Eq
  | .ne => .NotEq
  | .lt => .Lt
  | .le => .LtE
  | .gt => .Gt
  | .is => .Is
  | .isin => .In
  | .notin => .NotIn
noncomputable def notSuper : Expr → Bool
  | .Call (.Name x _) _ _ _ => !(x == ("super" : Str))
  | _ => true
noncomputable def notSet : Expr → Bool
  | .Set .. => false
  | _ => true
noncomputable def bfName : BF → Str × Nat
  | .len => ("len", 1)
  | .range => ("range", 1)
  | .list => ("list", 1)
  | .str => ("str", 1)
  | .int => ("int", 1)
  | .sortedSet => ("", 0)
noncomputable def bmName : BM → Str × Nat
  | .append => ("append", 1)
  | .join => ("join", 1)
  | .split => ("split", 1)
  | .rstrip => ("rstrip", 0)
noncomputable def tyName : Ty → Str
  | .int => "int"
  | .bool => "bool"
  | .str => "str"
  | .tuple => "tuple"
  | .list => "list"
  | .cls _ => ""
noncomputable def inner (csc : Scope) (ns : List (Option Str)) : List (Option Str) := ns.map fun o => o.bind fun y => if csc.names.lookup y = some .free then some y else none
noncomputable def compOk (sc csc : Scope) (x : Str) : Bool :=
  decide (csc.kind = .function) && ((decide (csc.names.lookup x = some .local) || decide (csc.names.lookup x = some .cell)) &&
  csc.names.all fun p => decide (csc.names.lookup p.1 = some p.2) && (!decide (p.2 = .free) || (decide (sc.names.lookup p.1 = some .cell) || decide (sc.names.lookup p.1 = some .free))))
noncomputable def dConst (e : Expr) : Option { p : Const × Nat × Pos // e = .Constant p.1 p.2.1 p.2.2 } := match e with
  | .Constant c k pos => some ⟨(c, k, pos), rfl⟩
  | _ => none
noncomputable def dName (e : Expr) : Option { p : Str × Pos // e = .Name p.1 p.2 } := match e with
  | .Name x pos => some ⟨(x, pos), rfl⟩
  | _ => none
noncomputable def dBin (e : Expr) : Option { p : Expr × Operator × Expr × Pos // e = .BinOp p.1 p.2.1 p.2.2.1 p.2.2.2 } := match e with
  | .BinOp l o r pos => some ⟨(l, o, r, pos), rfl⟩
  | _ => none
noncomputable def dUn (e : Expr) : Option { p : UnaryOp × Expr × Pos // e = .UnaryOp p.1 p.2.1 p.2.2 } := match e with
  | .UnaryOp o x pos => some ⟨(o, x, pos), rfl⟩
  | _ => none
noncomputable def dBool (e : Expr) : Option { p : BoolOp × List Expr × Pos // e = .BoolOp p.1 p.2.1 p.2.2 } := match e with
  | .BoolOp o xs pos => some ⟨(o, xs, pos), rfl⟩
  | _ => none
noncomputable def dCmp (e : Expr) : Option { p : Expr × List CmpOp × List Expr × Pos // e = .Compare p.1 p.2.1 p.2.2.1 p.2.2.2 } := match e with
  | .Compare l os rs pos => some ⟨(l, os, rs, pos), rfl⟩
  | _ => none
noncomputable def dSub (e : Expr) : Option { p : Expr × Expr × Pos // e = .Subscript p.1 p.2.1 p.2.2 } := match e with
  | .Subscript v s pos => some ⟨(v, s, pos), rfl⟩
  | _ => none
noncomputable def dSlice (e : Expr) : Option { p : Option Expr × Option Expr × Option Expr × Pos // e = .Slice p.1 p.2.1 p.2.2.1 p.2.2.2 } := match e with
  | .Slice l u t pos => some ⟨(l, u, t, pos), rfl⟩
  | _ => none
noncomputable def dTup (e : Expr) : Option { p : List Expr × Nat × Pos // e = .Tuple p.1 p.2.1 p.2.2 } := match e with
  | .Tuple xs k pos => some ⟨(xs, k, pos), rfl⟩
  | _ => none
noncomputable def dList (e : Expr) : Option { p : List Expr × Pos // e = .List p.1 p.2 } := match e with
  | .List xs pos => some ⟨(xs, pos), rfl⟩
  | _ => none
noncomputable def dDict (e : Expr) : Option { p : List (Option Expr) × List Expr × Pos // e = .Dict p.1 p.2.1 p.2.2 } := match e with
  | .Dict ks vs pos => some ⟨(ks, vs, pos), rfl⟩
  | _ => none
noncomputable def dAttr (e : Expr) : Option { p : Expr × Str × Pos // e = .Attribute p.1 p.2.1 p.2.2 } := match e with
  | .Attribute v y pos => some ⟨(v, y, pos), rfl⟩
  | _ => none
noncomputable def dCall (e : Expr) : Option { p : Expr × List Expr × List Keyword × Pos // e = .Call p.1 p.2.1 p.2.2.1 p.2.2.2 } := match e with
  | .Call f xs ks pos => some ⟨(f, xs, ks, pos), rfl⟩
  | _ => none
noncomputable def dComp (e : Expr) : Option { p : Expr × List Comprehension × Scope × Pos // e = .ListComp p.1 p.2.1 p.2.2.1 p.2.2.2 } := match e with
  | .ListComp el gs csc pos => some ⟨(el, gs, csc, pos), rfl⟩
  | _ => none
noncomputable def cNone (c : Const) : Option { _p : Unit // c = .none } := match c with
  | .none => some ⟨(), rfl⟩
  | _ => none
noncomputable def cBool (c : Const) : Option { b : Bool // c = .bool b } := match c with
  | .bool b => some ⟨b, rfl⟩
  | _ => none
noncomputable def cInt (c : Const) : Option { b : Int // c = .int b } := match c with
  | .int b => some ⟨b, rfl⟩
  | _ => none
noncomputable def cStr (c : Const) : Option { b : Str // c = .str b } := match c with
  | .str b => some ⟨b, rfl⟩
  | _ => none
noncomputable def isUSub (o : UnaryOp) : Option { _p : Unit // o = .USub } := match o with
  | .USub => some ⟨(), rfl⟩
  | _ => none
noncomputable def isNotOp (o : UnaryOp) : Option { _p : Unit // o = .Not } := match o with
  | .Not => some ⟨(), rfl⟩
  | _ => none
noncomputable def isAnd (o : BoolOp) : Option { _p : Unit // o = .And } := match o with
  | .And => some ⟨(), rfl⟩
  | _ => none
noncomputable def isOr (o : BoolOp) : Option { _p : Unit // o = .Or } := match o with
  | .Or => some ⟨(), rfl⟩
  | _ => none
noncomputable def one {α : Type} (xs : List α) : Option { x : α // xs = [x] } := match xs with
  | [x] => some ⟨x, rfl⟩
  | _ => none
noncomputable def two {α : Type} (xs : List α) : Option { p : α × α // xs = [p.1, p.2] } := match xs with
  | [x, y] => some ⟨(x, y), rfl⟩
  | _ => none
noncomputable def more (xs : List Expr) : Option { p : Expr × Expr × List Expr // xs = p.1 :: p.2.1 :: p.2.2 } := match xs with
  | x :: y :: r => some ⟨(x, y, r), rfl⟩
  | _ => none
noncomputable def nilL {α : Type} (xs : List α) : Option { _p : Unit // xs = [] } := match xs with
  | [] => some ⟨(), rfl⟩
  | _ :: _ => none
noncomputable def noneO {α : Type} (o : Option α) : Option { _p : Unit // o = none } := match o with
  | none => some ⟨(), rfl⟩
  | some _ => none
noncomputable def dCallN (e : Expr) : Option { p : Str × Pos × List Expr × Pos // e = .Call (.Name p.1 p.2.1) p.2.2.1 [] p.2.2.2 } := match dCall e with
  | some ⟨(f, xs, ks, pos), h⟩ => (match nilL ks, dName f with
    | some ⟨_, hk⟩, some ⟨(x, np), hn⟩ => some ⟨(x, np, xs, pos), h.trans (by dsimp only at hk hn ⊢; rw [hk, hn])⟩
    | _, _ => none)
  | none => none
noncomputable def dCallA (e : Expr) : Option { p : Expr × Str × Pos × List Expr × Pos // e = .Call (.Attribute p.1 p.2.1 p.2.2.1) p.2.2.2.1 [] p.2.2.2.2 ∧ (p.2.2.1.endLine == p.2.2.2.2.line) = true } := match dCall e with
  | some ⟨(f, xs, ks, pos), h⟩ => (match nilL ks, dAttr f with
    | some ⟨_, hk⟩, some ⟨(o, y, apos), hn⟩ => if hl : (apos.endLine == pos.line) = true then some ⟨(o, y, apos, xs, pos), h.trans (by dsimp only at hk hn ⊢; rw [hk, hn]), hl⟩ else none
    | _, _ => none)
  | none => none
noncomputable def gen1 (gs : List Comprehension) : Option { p : Str × Pos × Expr × List Expr // gs = [⟨.Name p.1 p.2.1, p.2.2.1, p.2.2.2, 0⟩] } := match one gs with
  | some ⟨⟨t, i, ifs, as⟩, h⟩ => (match dName t with
    | some ⟨(x, px), hn⟩ => if ha : as = 0 then some ⟨(x, px, i, ifs), h.trans (by dsimp only at hn ⊢; rw [hn, ha])⟩ else none
    | none => none)
  | none => none
noncomputable def tyOk (N : Names) (y : Str) : Ty → Bool
  | .cls c => hasNo N.clss y c
  | t => decide (tyName t = y)
noncomputable def seen {α : Type} (o : Option α) (f : α → Bool) : Bool := match o with
  | some a => f a
  | none => false
theorem seen_of {α : Type} {o : Option α} {f : α → Bool} (h : seen o f = true) : ∃ a, f a = true := by
  cases o with
  | none => exact no_true h
  | some a => exact ⟨a, h⟩
theorem said {P : Prop} {o : Option { _p : Unit // P }} (h : o.isSome = true) : P := by
  cases o with
  | none => exact no_true h
  | some a => exact a.2
theorem an1 {a b : Bool} (h : (a && b) = true) : a = true := by
  cases a with
  | true => rfl
  | false => exact no_true h
theorem an2 {a b : Bool} (h : (a && b) = true) : b = true := by
  cases a with
  | true => exact h
  | false => exact no_true h
theorem or_of {p q : Prop} [Decidable p] [Decidable q] (h : (decide p || decide q) = true) : p ∨ q := ((Bool.or_eq_true _ _).mp h).imp of_decide_eq_true of_decide_eq_true
theorem not_not {b : Bool} (h : (!b) = true) : b = false := (Bool.not_eq_true' b).mp h
mutual
noncomputable def ck (N : Names) (sc : Scope) (ns : List (Option Str)) (m : ME) (e : Expr) : Bool :=
  match m with
  | .none => (seen (dConst e) fun p1 => (cNone p1.1.1).isSome)
  | .bool b => (seen (dConst e) fun p1 => (seen (cBool p1.1.1) fun p2 => b == p2.1))
  | .int i => (seen (dConst e) fun p1 => (seen (cInt p1.1.1) fun p2 => decide (i = p2.1)))
  | .str s => (seen (dConst e) fun p1 => (seen (cStr p1.1.1) fun p2 => decide (s = p2.1) && decide (s.length ≤ 1000)))
  | .glob k => (seen (dName e) fun p1 => isGlob sc p1.1.1 && hasNo N.globs p1.1.1 k)
  | .var i => (seen (dName e) fun p1 => isVar sc ns i p1.1.1)
  | .bin op a b => (seen (dBin e) fun p1 => opOk op p1.1.2.1 && ck N sc ns a p1.1.1 && ck N sc ns b p1.1.2.2.1)
  | .neg a => (seen (dUn e) fun p1 => (isUSub p1.1.1).isSome && ck N sc ns a p1.1.2.1)
  | .not a => (seen (dUn e) fun p1 => (isNotOp p1.1.1).isSome && ck N sc ns a p1.1.2.1)
  | .and a b => (seen (dBool e) fun p1 => (isAnd p1.1.1).isSome && (seen (more p1.1.2.1) fun p2 => ck N sc ns a p2.1.1 && (match p2.1.2.2 with
        | [] => ck N sc ns b p2.1.2.1
        | _ :: _ => ck N sc ns b (.BoolOp .And (p2.1.2.1 :: p2.1.2.2) p1.1.2.2))))
  | .or a b => (seen (dBool e) fun p1 => (isOr p1.1.1).isSome && (seen (more p1.1.2.1) fun p2 => ck N sc ns a p2.1.1 && (match p2.1.2.2 with
        | [] => ck N sc ns b p2.1.2.1
        | _ :: _ => ck N sc ns b (.BoolOp .Or (p2.1.2.1 :: p2.1.2.2) p1.1.2.2))))
  | .cmp op a b => (seen (dCmp e) fun p1 => decide (p1.1.2.1 = [cmOp op]) && (seen (one p1.1.2.2.1) fun p2 => ck N sc ns a p1.1.1 && ck N sc ns b p2.1 && notSet p2.1))
  | .cmp2 op1 op2 a b c => (seen (dCmp e) fun p1 => decide (p1.1.2.1 = [cmOp op1, cmOp op2]) && (seen (two p1.1.2.2.1) fun p2 => ck N sc ns a p1.1.1 && ck N sc ns b p2.1.1 && ck N sc ns c p2.1.2 && notSet p2.1.2))
  | .sub a i => (seen (dSub e) fun p1 => ck N sc ns a p1.1.1 && ck N sc ns i p1.1.2.1)
  | .slice a lo hi => (seen (dSub e) fun p1 => (seen (dSlice p1.1.2.1) fun p2 => ck N sc ns a p1.1.1 && ckO N sc ns lo p2.1.1 && ckO N sc ns hi p2.1.2.1 && (noneO p2.1.2.2.1).isSome))
  | .tup es => (seen (dTup e) fun p1 => ckEs N sc ns es p1.1.1 && decide (p1.1.1.length ≤ 1000))
  | .list es => (seen (dList e) fun p1 => ckEs N sc ns es p1.1.1 && decide (p1.1.1.length ≤ 1000))
  | .dict => (seen (dDict e) fun p1 => p1.1.1.isEmpty && p1.1.2.1.isEmpty)
  | .attr a n => (seen (dAttr e) fun p1 => ck N sc ns a p1.1.1 && hasNo N.attrs p1.1.2.1 n && notSuper p1.1.1)
  | .call f es => (seen (dCallN e) fun p1 => isGlob sc p1.1.1 && hasNo N.funs p1.1.1 f && ckEs N sc ns es p1.1.2.2.1 && decide (p1.1.2.2.1.length ≤ 20))
  | .new c es => (seen (dCallN e) fun p1 => isGlob sc p1.1.1 && hasNo N.clss p1.1.1 c && ckEs N sc ns es p1.1.2.2.1 && decide (p1.1.2.2.1.length ≤ 20))
  | .umeth a m es => (seen (dCallA e) fun p1 => ck N sc ns a p1.1.1 && hasNo N.meths p1.1.2.1 m && ckEs N sc ns es p1.1.2.2.2.1 && decide (p1.1.2.2.2.1.length ≤ 20) && notSuper p1.1.1)
  | .bf f es => (seen (dCallN e) fun p1 => isGlob sc p1.1.1 && decide ((bfName f).1 = p1.1.1) && decide ((bfName f).2 = p1.1.2.2.1.length) && ckEs N sc ns es p1.1.2.2.1)
  | .bm a m es => (seen (dCallA e) fun p1 => ck N sc ns a p1.1.1 && decide ((bmName m).1 = p1.1.2.1) && decide ((bmName m).2 = p1.1.2.2.2.1.length) && ckEs N sc ns es p1.1.2.2.2.1 && notSuper p1.1.1)
  | .isinst a t => (seen (dCallN e) fun p1 => (seen (two p1.1.2.2.1) fun p2 => (seen (dName p2.1.2) fun p3 => isGlob sc p1.1.1 && decide (p1.1.1 = ("isinstance" : Str)) && isGlob sc p3.1.1 && ck N sc ns a p2.1.1 && tyOk N p3.1.1 t)))
  | .comp elt it cond => (seen (dComp e) fun p1 => (seen (gen1 p1.1.2.1) fun p2 => ck N sc ns it p2.1.2.2.1 && notSet p2.1.2.2.1 && compOk sc p1.1.2.2.1 p2.1.1 && ck N p1.1.2.2.1 (inner p1.1.2.2.1 ns ++ [some p2.1.1]) elt p1.1.1 && ckC N p1.1.2.2.1 (inner p1.1.2.2.1 ns ++ [some p2.1.1]) cond p2.1.2.2.2))
noncomputable def ckO (N : Names) (sc : Scope) (ns : List (Option Str)) : MEo → Option Expr → Bool
  | .none, none => true
  | .some e, some x => ck N sc ns e x
  | _, _ => false
noncomputable def ckC (N : Names) (sc : Scope) (ns : List (Option Str)) : MEo → List Expr → Bool
  | .none, [] => true
  | .some e, [x] => ck N sc ns e x
  | _, _ => false
noncomputable def ckEs (N : Names) (sc : Scope) (ns : List (Option Str)) : MEs → List Expr → Bool
  | .nil, [] => true
  | .cons e es, x :: xs => ck N sc ns e x && ckEs N sc ns es xs
  | _, _ => false
end
noncomputable def asExpr (st : Stmt) : Option { p : Expr × Pos // st = .Expr p.1 p.2 } := match st with
  | .Expr x pos => some ⟨(x, pos), rfl⟩
  | _ => none
noncomputable def dAsg (st : Stmt) : Option { p : Expr × Expr × Pos // st = .Assign [p.1] p.2.1 p.2.2 } := match st with
  | .Assign ts x pos => (match one ts with
    | some ⟨t, h⟩ => some ⟨(t, x, pos), by dsimp only; rw [h]⟩
    | none => none)
  | _ => none
noncomputable def asName (st : Stmt) : Option { p : Str × Pos × Expr × Pos // st = .Assign [.Name p.1 p.2.1] p.2.2.1 p.2.2.2 } := match dAsg st with
  | some ⟨(t, x, pos), h⟩ => (match dName t with
    | some ⟨(y, py), hn⟩ => some ⟨(y, py, x, pos), h.trans (by dsimp only at hn ⊢; rw [hn])⟩
    | none => none)
  | none => none
noncomputable def asAttr (st : Stmt) : Option { p : Expr × Str × Pos × Expr × Pos // st = .Assign [.Attribute p.1 p.2.1 p.2.2.1] p.2.2.2.1 p.2.2.2.2 } := match dAsg st with
  | some ⟨(t, x, pos), h⟩ => (match dAttr t with
    | some ⟨(o, y, py), hn⟩ => some ⟨(o, y, py, x, pos), h.trans (by dsimp only at hn ⊢; rw [hn])⟩
    | none => none)
  | none => none
noncomputable def asItem (st : Stmt) : Option { p : Expr × Expr × Pos × Expr × Pos // st = .Assign [.Subscript p.1 p.2.1 p.2.2.1] p.2.2.2.1 p.2.2.2.2 } := match dAsg st with
  | some ⟨(t, x, pos), h⟩ => (match dSub t with
    | some ⟨(o, y, py), hn⟩ => some ⟨(o, y, py, x, pos), h.trans (by dsimp only at hn ⊢; rw [hn])⟩
    | none => none)
  | none => none
noncomputable def asRet (st : Stmt) : Option { p : Option Expr × Pos // st = .Return p.1 p.2 } := match st with
  | .Return x pos => some ⟨(x, pos), rfl⟩
  | _ => none
noncomputable def asIf (st : Stmt) : Option { p : Expr × List Stmt × List Stmt × Pos // st = .If p.1 p.2.1 p.2.2.1 p.2.2.2 } := match st with
  | .If x ts fs pos => some ⟨(x, ts, fs, pos), rfl⟩
  | _ => none
noncomputable def dFor (st : Stmt) : Option { p : Expr × Expr × List Stmt × Pos // st = .For p.1 p.2.1 p.2.2.1 [] p.2.2.2 } := match st with
  | .For t x ts fs pos => (match nilL fs with
    | some ⟨_, h⟩ => some ⟨(t, x, ts, pos), by dsimp only; rw [h]⟩
    | none => none)
  | _ => none
noncomputable def asFor1 (st : Stmt) : Option { p : Str × Pos × Expr × List Stmt × Pos // st = .For (.Name p.1 p.2.1) p.2.2.1 p.2.2.2.1 [] p.2.2.2.2 } := match dFor st with
  | some ⟨(t, x, ts, pos), h⟩ => (match dName t with
    | some ⟨(y, py), hn⟩ => some ⟨(y, py, x, ts, pos), h.trans (by dsimp only at hn ⊢; rw [hn])⟩
    | none => none)
  | none => none
noncomputable def pairN (t : Expr) : Option { p : Str × Pos × Str × Pos × Nat × Pos // t = .Tuple [.Name p.1 p.2.1, .Name p.2.2.1 p.2.2.2.1] p.2.2.2.2.1 p.2.2.2.2.2 } := match dTup t with
  | some ⟨(xs, k, pt), h⟩ => (match two xs with
    | some ⟨(a, b), h2⟩ => (match dName a, dName b with
      | some ⟨(y, py), h3⟩, some ⟨(z, pz), h4⟩ => some ⟨(y, py, z, pz, k, pt), h.trans (by dsimp only at h2 h3 h4 ⊢; rw [h2, h3, h4])⟩
      | _, _ => none)
    | none => none)
  | none => none
noncomputable def asFor2 (st : Stmt) : Option { p : (Str × Pos × Str × Pos × Nat × Pos) × Expr × List Stmt × Pos // st = .For (.Tuple [.Name p.1.1 p.1.2.1, .Name p.1.2.2.1 p.1.2.2.2.1] p.1.2.2.2.2.1 p.1.2.2.2.2.2) p.2.1 p.2.2.1 [] p.2.2.2 } := match dFor st with
  | some ⟨(t, x, ts, pos), h⟩ => (match pairN t with
    | some ⟨q, hn⟩ => some ⟨(q, x, ts, pos), h.trans (by dsimp only; rw [hn])⟩
    | none => none)
  | none => none
noncomputable def asCall1 (e : Expr) : Option { p : Str × Pos × Expr × Pos // e = .Call (.Name p.1 p.2.1) [p.2.2.1] [] p.2.2.2 } := match dCallN e with
  | some ⟨(f, fp, xs, cp), h⟩ => (match one xs with
    | some ⟨x, h2⟩ => some ⟨(f, fp, x, cp), h.trans (by dsimp only; rw [h2])⟩
    | none => none)
  | none => none
noncomputable def asRaise (st : Stmt) : Option { p : Str × Pos × Str × Nat × Pos × Pos × Pos // st = .Raise (some (.Call (.Name p.1 p.2.1) [.Constant (.str p.2.2.1) p.2.2.2.1 p.2.2.2.2.1] [] p.2.2.2.2.2.1)) none p.2.2.2.2.2.2 } := match st with
  | .Raise (some e) o pos => (match noneO o, asCall1 e with
    | some ⟨_, h1⟩, some ⟨(f, fp, x, cp), h2⟩ => (match dConst x with
      | some ⟨(c, k, mp), h3⟩ => (match cStr c with
        | some ⟨m, h4⟩ => some ⟨(f, fp, m, k, mp, cp, pos), by dsimp only at h2 h3 ⊢; rw [h1, h2, h3, h4]⟩
        | none => none)
      | none => none)
    | _, _ => none)
  | _ => none
noncomputable def asTry (st : Stmt) : Option { p : List Stmt × ExceptHandler × List ExceptHandler × Pos // st = .Try p.1 (p.2.1 :: p.2.2.1) [] [] p.2.2.2 } := match st with
  | .Try ts hs a b pos => (match hs, nilL a, nilL b with
    | h :: hx, some ⟨_, h1⟩, some ⟨_, h2⟩ => some ⟨(ts, h, hx, pos), by dsimp only; rw [h1, h2]⟩
    | _, _, _ => none)
  | _ => none
noncomputable def notComp : ME → Bool
  | .comp .. => false
  | _ => true
noncomputable def asHandler (hd : ExceptHandler) : Option { p : Str × Pos × Option Str × Stmt × List Stmt × Pos // hd = .ExceptHandler (some (.Name p.1 p.2.1)) p.2.2.1 (p.2.2.2.1 :: p.2.2.2.2.1) p.2.2.2.2.2 } := match hd with
  | .ExceptHandler (some (.Name x xp)) y (t :: ts) pos => some ⟨(x, xp, y, t, ts, pos), rfl⟩
  | _ => none
noncomputable def hdName (sc : Scope) (ns : List (Option Str)) (i : Option Nat) (y : Option Str) : Bool := match i with
  | none => y.isNone
  | some i => (match y with
    | some y => isOwn sc ns i y && decide (sc.names.lookup y = some .local)
    | none => false)
mutual
noncomputable def ckS (N : Names) (sc : Scope) (ns : List (Option Str)) (m : MS) (st : Stmt) : Bool :=
  match m with
  | .expr e => (seen (asExpr st) fun p1 => ck N sc ns e p1.1.1 && notComp e)
  | .assign i e => (seen (asName st) fun p1 => isOwn sc ns i p1.1.1 && ck N sc ns e p1.1.2.2.1)
  | .setattr o n e => (seen (asAttr st) fun p1 => ck N sc ns e p1.1.2.2.2.1 && ck N sc ns o p1.1.1 && hasNo N.attrs p1.1.2.1 n)
  | .setitem o i e => (seen (asItem st) fun p1 => ck N sc ns e p1.1.2.2.2.1 && ck N sc ns o p1.1.1 && ck N sc ns i p1.1.2.1)
  | .ret e => (seen (asRet st) fun p1 => ckO N sc ns e p1.1.1)
  | .ite c t f => (seen (asIf st) fun p1 => ck N sc ns c p1.1.1 && ckSs N sc ns t p1.1.2.1 && ckSs N sc ns f p1.1.2.2.1)
  | .each i it b => (seen (asFor1 st) fun p1 => isOwn sc ns i p1.1.1 && ck N sc ns it p1.1.2.2.1 && notSet p1.1.2.2.1 && ckSs N sc ns b p1.1.2.2.2.1)
  | .eachEnum i j a body => (seen (asFor2 st) fun p1 => isOwn sc ns i p1.1.1.1 && isOwn sc ns j p1.1.1.2.2.1 && ckSs N sc ns body p1.1.2.2.1 && (seen (asCall1 p1.1.2.1) fun p2 => isGlob sc p2.1.1 && decide (p2.1.1 = ("enumerate" : Str)) && ck N sc ns a p2.1.2.2.1))
  | .raise c msg => (seen (asRaise st) fun p1 => isGlob sc p1.1.1 && hasNo N.clss p1.1.1 c && decide (p1.1.2.2.1 = msg) && ckEs N sc ns (.cons (.str msg) .nil) [.Constant (.str p1.1.2.2.1) p1.1.2.2.2.1 p1.1.2.2.2.2.1])
  | .tryx b hs => (seen (asTry st) fun p1 => ckSs N sc ns b p1.1.1 && ckHs N sc ns hs (p1.1.2.1 :: p1.1.2.2.1))
noncomputable def ckSs (N : Names) (sc : Scope) (ns : List (Option Str)) : MSs → List Stmt → Bool
  | .nil, [] => true
  | .cons s ss, x :: xs => ckS N sc ns s x && ckSs N sc ns ss xs
  | _, _ => false
noncomputable def ckHs (N : Names) (sc : Scope) (ns : List (Option Str)) : MHs → List ExceptHandler → Bool
  | .nil, [] => true
  | .cons c i b hs, hd :: hx => (seen (asHandler hd) fun p1 => isGlob sc p1.1.1 && hasNo N.clss p1.1.1 c && ckSs N sc ns b (p1.1.2.2.2.1 :: p1.1.2.2.2.2.1) && hdName sc ns i p1.1.2.2.1) && ckHs N sc ns hs hx
  | _, _ => false
end
noncomputable def nodupS : List (Option Str) → Bool
  | [] => true
  | none :: r => nodupS r
  | some x :: r => !(r.contains (some x)) && nodupS r
noncomputable def ckF (N : Names) (f : MFun) (ns : List Str) (params : Arguments) (body : List Stmt) (sc : Scope) : Bool :=
  decide (f.arity + f.nvars = ns.length) && (decide (ns.take f.arity = params.args.map (·.arg)) && (params.posonlyargs.isEmpty && (params.vararg.isNone && (params.kwonlyargs.isEmpty && (params.kwarg.isNone &&
  (nodupS (ns.map some) && (!sc.isCoroutine && (!sc.isGenerator && (decide (sc.kind = .function) && (ckSs N sc (ns.map some) f.body body &&
  ((sc.names.all fun p => decide (sc.names.lookup p.1 = some p.2) && !decide (p.2 = .free)) &&
  (ns.take f.arity).all fun y => decide (sc.names.lookup y = some .local) || decide (sc.names.lookup y = some .cell))))))))))))
end Mine
-- part MOps
namespace Mine
open PySem
section
variable {α β : Type} {cx : Cx} {A : Around} {P : Amb} {H : Hp} {ρ : Rho} {s : Shared} {t : Sem α} {V : β → α → Amb}
theorem simAt_pure {b : β} (R : Rel cx H ρ s) (k : ∀ (Q : α → Shared → Prop) (E : Value → Shared → Prop), (∀ a tk, (V b a).P ρ s.heap → Q a { s with toks := tk }) → wpAny (model cx.prog cx.w) A t Q E s) : SimAt cx A (.ok b H) t V ρ s :=
  k _ _ fun a tk v => ⟨ρ, Full.refl _ _, R.toks tk, v⟩
theorem Rel.newList {xs : List Val} {vs : List Value} (tk : Nat) (R : Rel cx H ρ s) (r : VRs cx ρ s.heap xs vs) (z : xs.length ≤ sizeLine) :
    ∃ ρ', Full ρ s.heap ρ' (s.heap.push (listO vs 0)) ∧ Rel cx (H ++ [.list xs]) ρ' { s with heap := s.heap.push (listO vs 0), toks := tk } ∧ VR cx ρ' (s.heap.push (listO vs 0)) (.loc H.length) (.ref s.heap.objs.size) := by
  have kp : ∀ b o, s.heap.get? b = some o → (s.heap.push (listO vs 0)).get? b = some o := fun b o e => Heap.get?_push_of_some _ e
  obtain ⟨F, R'⟩ := R.alloc (tk := tk) (o := .list xs) (p := (s.heap.objs.size, s.heap.objs.size)) kp ⟨fresh_none _, fresh_none _⟩
    (.list (n := 0) (Heap.get?_push_size _ rfl) (r.step (Full.alloc kp ⟨fresh_none _, fresh_none _⟩).step) z)
  refine ⟨_, F, R', ?_⟩
  rw [R.len]
  exact VR.loc (p := (s.heap.objs.size, s.heap.objs.size)) (by rw [List.getElem?_append_right (Nat.le_refl _)]; simp)
theorem simAt_list {t : Sem Value} {xs : List Val} {vs : List Value} {tk : Nat} (R : Rel cx H ρ s) (r : VRs cx ρ s.heap xs vs) (z : xs.length ≤ sizeLine)
    (k : ∀ (Q : Value → Shared → Prop) (E : Value → Shared → Prop), Q (.ref s.heap.objs.size) { s with heap := s.heap.push (listO vs 0), toks := tk } → wpAny (model cx.prog cx.w) A t Q E s) :
    SimAt cx A (.ok (.loc H.length) (H ++ [.list xs])) t (Amb.vr cx) ρ s :=
  k _ _ (R.newList tk r z)
end
theorem sizeLine_lid : lid = sizeLine := by skip; rfl
section
variable {cx : Cx} {A : Around} {P : Amb} {a b : Val} {v w : Value}
theorem small_ok {x : Int} (h : small x = true) : Builtin.Int.intBits x ≤ 64 := by
  unfold small at h
  simp only [Bool.and_eq_true, decide_eq_true_eq] at h
  exact intBits_le_64 h.1 h.2
theorem Rel.listAt {H : Hp} {ρ : Rho} {s : Shared} (R : Rel cx H ρ s) {l : Nat} {xs : List Val} {p : Addr × Addr} (hH : H[l]? = some (.list xs)) (hρ : ρ[l]? = some p) :
    ∃ vs n, p.2 = p.1 ∧ s.heap.get? p.1 = some (listO vs n) ∧ VRs cx ρ s.heap xs vs ∧ xs.length ≤ sizeLine := by
  have := R.objs l _ p hH hρ
  generalize ho : HObj.list xs = o at this
  cases this with
  | list e r z => cases ho; exact ⟨_, _, rfl, e, r, z⟩
  | dict _ _ _ => cases ho
  | inst _ _ _ _ _ _ _ _ _ _ => cases ho
  | hid _ => cases ho
theorem VR.int_inv {ρ : Rho} {h : Heap} {i : Int} (x : VR cx ρ h (.int i) v) : ∃ t, v = .int i t := by cases x; exact ⟨_, rfl⟩
theorem VR.str_inv {ρ : Rho} {h : Heap} {i : Str} (x : VR cx ρ h (.str i) v) : ∃ t, v = .str i t ∧ i.length ≤ sizeLine := by cases x; exact ⟨_, rfl, by assumption⟩
theorem VR.none_inv {ρ : Rho} {h : Heap} (x : VR cx ρ h .none v) : v = .none := by cases x; rfl
theorem VR.loc_inv {ρ : Rho} {h : Heap} {l : Nat} (x : VR cx ρ h (.loc l) v) : ∃ p, ρ[l]? = some p ∧ v = .ref p.1 := by cases x; exact ⟨_, by assumption, rfl⟩
theorem VRs.nil_inv {ρ : Rho} {h : Heap} {vs : List Value} (x : VRs cx ρ h [] vs) : vs = [] := by cases x; rfl
theorem VRs.cons_inv {ρ : Rho} {h : Heap} {m : Val} {ms : List Val} {vs : List Value} (x : VRs cx ρ h (m :: ms) vs) : ∃ v vs', vs = v :: vs' ∧ VR cx ρ h m v ∧ VRs cx ρ h ms vs' := by cases x; exact ⟨_, _, rfl, by assumption, by assumption⟩
theorem VRs.one_inv {ρ : Rho} {h : Heap} {m : Val} {vs : List Value} (x : VRs cx ρ h [m] vs) : ∃ v, vs = [v] ∧ VR cx ρ h m v := by
  obtain ⟨v, vs', rfl, y, z⟩ := x.cons_inv
  exact ⟨v, by rw [z.nil_inv], y⟩
theorem VRs.two_inv {ρ : Rho} {h : Heap} {m n : Val} {vs : List Value} (x : VRs cx ρ h [m, n] vs) : ∃ v w, vs = [v, w] ∧ VR cx ρ h m v ∧ VR cx ρ h n w := by
  obtain ⟨v, vs', rfl, y, z⟩ := x.cons_inv
  obtain ⟨w, hr1, u⟩ := z.one_inv; refine Eq.symm hr1 ▸ ?_
  exact ⟨v, w, rfl, y, u⟩
theorem replicate_fold (v : Value) : ∀ (n : Nat) (acc : Array Value), List.foldl (fun (x1 x2 : Array Value) => x1 ++ x2) acc (List.replicate n #[v]) = acc ++ (List.replicate n v).toArray
  | 0, acc => by simp
  | n + 1, acc => by
    rw [List.replicate_succ, List.foldl_cons, replicate_fold v n]
    apply Array.toList_inj.mp
    simp [List.replicate_succ]
theorem wp_rep {s : Shared} {l : Addr} {u : Value} {k : Nat} {x : Int} {t : Tok} {Q : Value → Shared → Prop} {E : Value → Shared → Prop} (hl : s.heap.get? l = some (listO [u] k)) (h0 : 0 ≤ x) (h1 : x ≤ 1000)
    (h : Q (.ref s.heap.objs.size) { s with heap := s.heap.push (listO (List.replicate x.toNat u) 0) }) : wpAny (model cx.prog cx.w) A (binaryOp .Mult (.ref l) (.int x t)) Q E s := by
  refine wpAny_binaryOp_repeat_ref (T := "list") (U := "int") (by decide) ⟨_, hl, rfl⟩ (fun s' => typeIs_int s' x t) noFill_list_mul F.fills_int_mul F.slot_int_rmul repeat_list F.slot_int_index.lookup
    (call_meets F.slot_int_rmul (typeIs_int s x t) F.entry_int_rmul (F.args_int_rmul_2 _ _) (int___rmul___int_list x t l #[u] k)
      ⟨hl, rfl, ⟨_, hl, rfl⟩, call_meets F.slot_list_mul ⟨_, hl, rfl⟩ F.entry_list_mul (F.args_list_mul_2 _ _)
        (AutoListH.list___mul___list_int_3 l #[u] k x t (by simp [Builtin.List.listFitsIndex]; omega) (by have e1 : (#[u] : Array Value).size = 1 := rfl; rw [e1]; omega) (by have e1 : (#[u] : Array Value).size = 1 := rfl; rw [Builtin.List.listTooLong, e1]; simp [sizeLine]; omega))
        ⟨hl, ?_⟩⟩)
  have e : (if (#[u] : Array Value).isEmpty = true then 0 else x.toNat) = x.toNat := rfl
  rw [e, replicate_fold]
  simpa [listO] using h
set_option tactic.hygienic true in
theorem sim_bin {op : BOp} {o : Operator} (ho : opOk op o = true) (h1 : ∀ ρ h, P.P ρ h → VR cx ρ h a v) (h2 : ∀ ρ h, P.P ρ h → VR cx ρ h b w) : Sim cx A P (binaryOp o v w) (binV op a b) (Amb.vr cx) := by
  intro H ρ s R p
  have x1 := h1 _ _ p
  have x2 := h2 _ _ p
  clear h1 h2 p
  have ho' : bOp op = o := of_decide_eq_true ho
  subst ho'
  clear ho
  cases op with
  | add =>
    cases a with
    | int i =>
      cases b with
      | int j =>
        obtain ⟨_, rfl⟩ := x1.int_inv
        obtain ⟨_, rfl⟩ := x2.int_inv
        exact simAt_pure R fun Q E k => PyProof.Rows.add_int (k _ _ (.int _ _))
      | _ => trivial
    | str x =>
      cases b with
      | str y =>
        obtain ⟨_, rfl, _⟩ := x1.str_inv
        obtain ⟨_, hr3, _⟩ := x2.str_inv; refine Eq.symm hr3 ▸ ?_
        show SimAt cx A ((if x.length + y.length ≤ lid then M.ret (Val.str (x ++ y)) else M.bad) H) _ _ ρ s
        by_cases q : x.length + y.length ≤ lid
        · rw [if_pos q]
          rw [sizeLine_lid] at q
          exact simAt_pure R fun Q E k => PyProof.Rows.add_str (fun t' tk => k _ _ (.str _ _ (by rw [strLen_append]; exact q))) q
        · rw [if_neg q]; trivial
      | _ => trivial
    | loc l1 =>
      cases b with
      | loc l2 =>
        obtain ⟨p1, e1, hr4⟩ := x1.loc_inv; refine Eq.symm hr4 ▸ ?_
        obtain ⟨p2, e2, hr5⟩ := x2.loc_inv; refine Eq.symm hr5 ▸ ?_
        show SimAt cx A (match H[l1]?, H[l2]? with
          | some (.list xs), some (.list ys) => if xs.length + ys.length ≤ lid then M.alloc (.list (xs ++ ys)) H else .bad
          | _, _ => .bad) _ _ ρ s
        cases q1 : H[l1]? with
        | none => trivial
        | some o1 =>
        cases o1 with
        | list xs =>
          cases q2 : H[l2]? with
          | none => trivial
          | some o2 =>
          cases o2 with
          | list ys =>
           refine hideG fun G kG => ?_
           obtain ⟨vs, n, _, g1, r1, _⟩ := R.listAt q1 e1
           obtain ⟨ws, m, _, g2, r2, _⟩ := R.listAt q2 e2
           refine kG ?_
           show SimAt cx A (if xs.length + ys.length ≤ lid then M.alloc (.list (xs ++ ys)) H else .bad) _ _ ρ s
           by_cases q : xs.length + ys.length ≤ lid
           · rw [if_pos q]
             rw [sizeLine_lid] at q
             refine simAt_list (vs := vs ++ ws) (tk := s.toks) R (r1.append r2) (by rw [List.length_append]; exact q) fun Q E k => ?_
             refine PySem.P.add_list (items := vs.toArray) (items2 := ws.toArray) (n := n) (n2 := m) g1 g2 ?_ (by simp only [List.size_toArray]; rw [← r1.length, ← r2.length]; exact q)
             simpa [listO] using k
           · rw [if_neg q]; trivial
          | _ => trivial
        | _ => trivial
      | _ => trivial
    | _ => trivial
  | sub =>
    cases a with
    | int i =>
      cases b with
      | int j =>
        obtain ⟨_, rfl⟩ := x1.int_inv
        obtain ⟨_, rfl⟩ := x2.int_inv
        exact simAt_pure R fun Q E k => PyProof.Rows.sub_int (k _ _ (.int _ _))
      | _ => trivial
    | _ => trivial
  | mul =>
    cases a with
    | int i =>
      cases b with
      | int j =>
        obtain ⟨_, rfl⟩ := x1.int_inv
        obtain ⟨_, rfl⟩ := x2.int_inv
        show SimAt cx A ((if (small i || small j) = true then M.ret (Val.int (i * j)) else M.bad) H) _ _ ρ s
        by_cases q : (small i || small j) = true
        · rw [if_pos q]
          refine simAt_pure R fun Q E k => PyProof.Rows.mul_int (k _ _ (.int _ _)) ?_
          rcases (Bool.or_eq_true _ _).mp q with q | q
          · exact IntMulOk.of_left (small_ok q)
          · exact IntMulOk.of_right (small_ok q)
        · rw [if_neg q]; trivial
      | _ => trivial
    | loc l1 =>
      cases b with
      | int j =>
        obtain ⟨p1, e1, rfl⟩ := x1.loc_inv
        obtain ⟨_, rfl⟩ := x2.int_inv
        show SimAt cx A (match H[l1]? with
          | some (.list [v]) => if 0 ≤ j ∧ j ≤ 1000 then M.alloc (.list (List.replicate j.toNat v)) H else .bad
          | _ => .bad) _ _ ρ s
        split
        · rename_i y q1
          refine hideG fun G kG => ?_
          obtain ⟨vs, n, _, g1, r1, _⟩ := R.listAt q1 e1
          refine kG ?_
          by_cases q : 0 ≤ j ∧ j ≤ 1000
          · rw [if_pos q]
            obtain ⟨u, rfl, r2⟩ := r1.one_inv
            refine simAt_list (vs := List.replicate _ u) (tk := s.toks) R (VRs.replicate r2 _) (by rw [List.length_replicate, sizeLine_eq]; omega) fun Q E k => ?_
            exact wp_rep g1 q.1 q.2 k
          · rw [if_neg q]; trivial
        · trivial
      | _ => trivial
    | _ => trivial
  | fdiv =>
    cases a with
    | int i =>
      cases b with
      | int j =>
        obtain ⟨_, rfl⟩ := x1.int_inv
        obtain ⟨_, rfl⟩ := x2.int_inv
        show SimAt cx A ((if j = 0 ∨ 1073741824 ≤ j.natAbs then M.bad else M.ret (Val.int (Int.fdiv i j))) H) _ _ ρ s
        by_cases q : j = 0 ∨ 1073741824 ≤ j.natAbs
        · rw [if_pos q]; trivial
        · rw [if_neg q]
          exact simAt_pure R fun Q E k => PyProof.Rows.floordiv_int (fun e => q (.inl e)) (k _ _ (.int _ _)) (.inl (PyProof.noPylong_small (by omega)))
      | _ => trivial
    | _ => trivial
  | mod =>
    cases a with
    | int i =>
      cases b with
      | int j =>
        obtain ⟨_, rfl⟩ := x1.int_inv
        obtain ⟨_, rfl⟩ := x2.int_inv
        show SimAt cx A ((if j = 0 then M.bad else M.ret (Val.int (Int.fmod i j))) H) _ _ ρ s
        by_cases q : j = 0
        · rw [if_pos q]; trivial
        · rw [if_neg q]
          exact simAt_pure R fun Q E k => PyProof.Rows.mod_int' q (k _ _ (.int _ _))
      | _ => trivial
    | _ => trivial
end
end Mine
-- part MExpr
namespace Mine
open PySem
structure FnOk (cx : Cx) (N : Names) (a : Addr) (f : MFun) : Prop where
  is : ∃ o fd body ns, cx.h₀.get? a = some o ∧ o.cls = .type "function" ∧ o.data = .func fd ∧ cx.h₀.CodeRec fd.code fd.qualname ∧ fd.body = .stmts body ∧ fd.closure = [] ∧ fd.globals = mainGlobals ∧ fd.builtins = builtinsNs ∧
    fd.defaults = .none ∧ fd.kwdefaults = .none ∧ ckF N f ns fd.params body fd.scope = true
structure ClsOk (cx : Cx) (N : Names) (c : Nat) (C : Addr) : Prop where
  is : ∃ nm q Nn bs sn sub col dd k0 k1 k2 k3 k5 mN, cx.h₀.get? C = some (excClassObj nm q C Nn bs [.type "object"] true sn sub false col dd k0 k1 k2 k3 k5 "object.__new__") ∧ cx.h₀.Ns Nn mN ∧
    mN "__getattribute__" = none ∧ mN "__getattr__" = none ∧ mN "__setattr__" = none ∧
    (∀ (n : Nat) (y : Str), cx.attrs[n]? = some y → mN y = none ∧ typeLookup (.type "object") y = pure none) ∧
    (∀ (y : Str) (m k : Nat), N.meths.lookup y = some m → cx.T.meth c m = some k → ∃ fa o fd, cx.fns[k]? = some fa ∧ mN y = some (.ref fa) ∧ cx.h₀.get? fa = some o ∧ o.cls = .type "function" ∧ o.data = .func fd ∧ (∀ n : Nat, cx.attrs[n]? ≠ some y) ∧ ∃ r, typeLookup (.type "object") y = pure r)
structure ClsBase (cx : Cx) (N : Names) : Prop where
  attr : ∀ (y : Str) (n : Nat), N.attrs.lookup y = some n → cx.attrs[n]? = some y
  inj : ∀ (i j : Nat) (y : Str), cx.attrs[i]? = some y → cx.attrs[j]? = some y → i = j
  few : cx.attrs.length ≤ sizeLine
  init : N.meths.lookup ("__init__" : Str) = some 0
  ref : ∀ (c : Nat) (v : Value), cx.cls[c]? = some v → (cx.T.meth c 0).isSome = true → ∃ C, v = .ref C
  cls : ∀ (c : Nat) (C : Addr), cx.cls[c]? = some (.ref C) → (cx.T.meth c 0).isSome = true → ClsOk cx N c C
noncomputable def mroV : List Value := [.type "ValueError", .type "Exception", .type "BaseException", .type "object"]
structure ExcOk (cx : Cx) (c : Nat) (C : Addr) : Prop where
  is : ∃ nm q Nn bs bm hdct sn sub ab col dd k0 k1 k2 k3 k5 mN, cx.h₀.get? C = some (excClassObj nm q C Nn bs bm hdct sn sub ab col dd k0 k1 k2 k3 k5 "ValueError.__new__") ∧ cx.h₀.Ns Nn mN ∧ mN "__init__" = none ∧ OwnTail cx.h₀ mroV bm ∧
    ∀ (d : Nat) (D : Value), cx.cls[d]? = some D → cx.T.sub c d = (Value.ref C :: bm).contains D
  isi : ∃ K : PySem.W.Frag, K.In cx.h₀ ∧ ExcK K C ∧ ∀ (d : Nat) (D : Value), cx.cls[d]? = some D → clsVal K D = true ∧ PySem.W.mroIn K C D = some (cx.T.sub c d)
structure Base (cx : Cx) (N : Names) : Prop where
  ns : ∃ mg mb, cx.h₀.Ns mainGlobals mg ∧ cx.h₀.Ns builtinsNs mb ∧
    (∀ x k, N.funs.lookup x = some k → ∃ a, cx.fns[k]? = some a ∧ mg x = some (.ref a)) ∧
    (∀ x k, N.globs.lookup x = some k → ∃ v val, cx.T.globs[k]? = some v ∧ mg x = some val ∧ ∀ ρ h, VR cx ρ h v val) ∧
    (∀ x c, N.clss.lookup x = some c → ∃ C, cx.cls[c]? = some C ∧ (mg x = some C ∨ (mg x = none ∧ mb x = some C))) ∧
    (∀ p ∈ bltTab, mg p.1 = none ∧ mb p.1 = some p.2)
  lim : cx.h₀.NoLimit
  fns : ∀ (k : Nat) (a : Addr) (f : MFun), cx.fns[k]? = some a → cx.T.funs[k]? = some f → FnOk cx N a f
  cls : ClsBase cx N
  exc : ∀ c : Nat, cx.T.isExc c = true → ∃ C, cx.cls[c]? = some (.ref C) ∧ ExcOk cx c C
theorem hasNo_eq {l : List (Str × Nat)} {x : Str} {k : Nat} (h : hasNo l x k = true) : l.lookup x = some k := of_decide_eq_true h
theorem isGlob_eq {sc : Scope} {x : Str} (h : isGlob sc x = true) : sc.names.lookup x = some .globalImplicit ∧ (x == ("__debug__" : Str)) = false := ⟨of_decide_eq_true (an1 h), not_not (an2 h)⟩
theorem isVar_eq {sc : Scope} {ns : List (Option Str)} {i : Nat} {x : Str} (h : isVar sc ns i x = true) :
    (sc.names.lookup x = some .local ∨ sc.names.lookup x = some .cell ∨ sc.names.lookup x = some .free) ∧ ns[i]? = some (some x) ∧ (x == ("__debug__" : Str)) = false ∧ (x == ("__classdict__" : Str)) = false :=
  ⟨((Bool.or_eq_true _ _).mp (an1 h)).imp of_decide_eq_true or_of, of_decide_eq_true (an1 (an2 h)), not_not (an1 (an2 (an2 h))), not_not (an2 (an2 (an2 h)))⟩
section
variable {cx : Cx} {N : Names} {A : Around} {env : Env} {sc : Scope} {ns : List (Option Str)} {Γ : Env'}
theorem sim_var {i : Nat} {x : Str} {pos : Pos} (hv : isVar sc ns i x = true) (Φ : Funs) : Sim cx A (Amb.env cx env sc ns Γ) (eval (.Name x pos) env) (evalE cx.T Φ (.var i) Γ) (Amb.vr cx) := by
  refine hideG fun G kG => ?_
  obtain ⟨_, hn, hd, hc⟩ := isVar_eq hv
  refine kG ?_
  intro H ρ s R p
  rw [ev_var]
  cases e : Γ[i]? with
  | none => trivial
  | some o =>
    cases o with
    | none => trivial
    | some mv =>
      obtain ⟨v, q, r⟩ := p.vals i x mv hn e
      refine simAt_pure R fun Q E k => ?_
      have k' := k v s.toks r
      rcases q with ⟨kd, m, hm, hv⟩ | ⟨kd, c, hc', hv⟩
      · exact wpAny_Name (wpAny_loadName_local p.st.fn kd hm hv k') hd
      · rcases kd with kd | kd
        · exact wpAny_Name (wpAny_loadName_cell p.st.fn kd hc' hv k') hd
        · exact wpAny_Name (wpAny_loadName_free p.st.fn kd hc' hv k' hc) hd
theorem wp_glob {ρ : Rho} {s : Shared} {H : Hp} {x : Str} {pos : Pos} {mg mb : Str → Option Value} {v : Value} {Q : Value → Shared → Prop} {E : Value → Shared → Prop} (R : Rel cx H ρ s) (p : EnvSt cx env sc ρ s.heap) (hg : isGlob sc x = true)
    (ng : cx.h₀.Ns mainGlobals mg) (nb : cx.h₀.Ns builtinsNs mb) (hv : mg x = some v ∨ (mg x = none ∧ mb x = some v)) (h : Q v s) : wpAny (model cx.prog cx.w) A (eval (.Name x pos) env) Q E s := by
  obtain ⟨h1, h2⟩ := isGlob_eq hg
  have kd : env.kindOf x = some .globalImplicit := p.kinds x _ h1
  have ng' : s.heap.Ns env.globals mg := by rw [p.glob]; exact ng.keeps R.base
  have nb' : s.heap.Ns env.builtins mb := by rw [p.blt]; exact nb.keeps R.base
  refine Calls.Name_function_global p.fn kd ?_ h2
  rcases hv with hv | ⟨h0, hv⟩
  · exact Calls.loadGlobal_global ng' hv h
  · exact Calls.loadGlobal_builtin ng' h0 nb' hv h
theorem sim_glob (B : Base cx N) {k : Nat} {x : Str} {pos : Pos} (hg : isGlob sc x = true) (hk : hasNo N.globs x k = true) (Φ : Funs) : Sim cx A (Amb.env cx env sc ns Γ) (eval (.Name x pos) env) (evalE cx.T Φ (.glob k) Γ) (Amb.vr cx) := by
  refine hideG fun G kG => ?_
  obtain ⟨mg, mb, ng, nb, _, q, _⟩ := B.ns
  obtain ⟨v, val, e1, e2, r⟩ := q x k (hasNo_eq hk)
  refine kG ?_
  intro H ρ s R p
  rw [ev_glob, e1]
  exact simAt_pure R fun Q E k => wp_glob R p.st hg ng nb (.inl e2) (k _ s.toks (r _ _))
theorem sim_truthy {a : Val} {v : Value} {P : Amb} (h : ∀ ρ h, P.P ρ h → VR cx ρ h a v) : Sim cx A P (truthy v) (truth a) (fun b b' => Amb.prop (b' = b)) := by
  intro H ρ s R p
  have x := h _ _ p
  cases x with
  | bool b => exact simAt_pure R fun Q E k => wpAny_truthy_bool (k _ s.toks rfl)
  | _ => trivial
theorem sim_neg {a : Val} {v : Value} {P : Amb} (h : ∀ ρ h, P.P ρ h → VR cx ρ h a v) : Sim cx A P (unaryOp .USub v) (match a with | .int i => M.ret (Val.int (-i)) | _ => .bad) (Amb.vr cx) := by
  intro H ρ s R p
  have x := h _ _ p
  cases x with
  | int i t => exact simAt_pure R fun Q E k => PyProof.Rows.neg_int (k _ _ (.int _ _))
  | _ => trivial
theorem sim_not {a : Val} {v : Value} {P : Amb} (h : ∀ ρ h, P.P ρ h → VR cx ρ h a v) : Sim cx A P (unaryOp .Not v) ((truth a).bnd fun b => M.ret (Val.bool (!b))) (Amb.vr cx) := by
  intro H ρ s R p
  have x := h _ _ p
  cases x with
  | bool b => exact simAt_pure R fun Q E k => not_value (wpAny_truthy_bool (k _ s.toks (.bool _)))
  | _ => trivial
end
end Mine
-- part MCmp
namespace Mine
open PySem
section
variable {cx : Cx} {H : Hp} {ρ : Rho} {s : Shared}
theorem reads_dats {n : Nat} {f : Val → Option PyData} (ih : ∀ {m : Val} {v : Value} {d : PyData}, VR cx ρ s.heap m v → f m = some d → (∃ as, Reads s.heap v d as) ∧ d.canLay0 = true ∧ d.depth ≤ n) :
    ∀ {xs : List Val} {vs : List Value} {ds : List PyData}, VRs cx ρ s.heap xs vs → dats f xs = some ds → (∃ as, ReadsAll s.heap vs ds as) ∧ PyData.canLayAll0 ds = true ∧ PyData.depthAll ds ≤ n := by
  intro xs
  induction xs with
  | nil =>
    intro vs ds r h
    cases r
    cases h
    exact ⟨⟨_, .nil⟩, rfl, Nat.zero_le _⟩
  | cons x xs hi =>
    intro vs ds r h
    cases r with
    | cons a r =>
      refine dats_el (C := fun ds => (∃ as, ReadsAll s.heap _ ds as) ∧ PyData.canLayAll0 ds = true ∧ PyData.depthAll ds ≤ n) h fun d ds' e1 e2 => ?_
      refine hideG fun G kG => ?_
      obtain ⟨⟨as, h1⟩, h2, h3⟩ := ih a e1
      obtain ⟨⟨bs, g1⟩, g2, g3⟩ := hi r e2
      refine kG ?_
      exact ⟨⟨_, .cons h1 g1⟩, (Bool.and_eq_true _ _).mpr ⟨h2, g2⟩, Nat.max_le.mpr ⟨h3, g3⟩⟩
theorem ite_some {α : Type} {p : Prop} [Decidable p] {x y : α} (h : (if p then some x else none) = some y) : p ∧ x = y := by
  by_cases q : p
  · rw [if_pos q] at h; exact ⟨q, Option.some.inj h⟩
  · rw [if_neg q] at h; exact no_some h
theorem reads_flat {n : Nat} {m : Val} {v : Value} {d : PyData} (x : VR cx ρ s.heap m v) (h : flatOf m = some d) : (∃ as, Reads s.heap v d as) ∧ d.canLay0 = true ∧ d.depth ≤ n := by
  cases x with
  | none => cases h; exact ⟨⟨_, .none⟩, rfl, Nat.zero_le _⟩
  | bool b => cases h; exact ⟨⟨_, .bool b⟩, rfl, Nat.zero_le _⟩
  | int i t => cases h; exact ⟨⟨_, .int i t⟩, rfl, Nat.zero_le _⟩
  | str y t z =>
    obtain ⟨h1, h2⟩ := ite_some h
    cases h2; exact ⟨⟨_, .str y t⟩, h1, Nat.zero_le _⟩
  | _ => exact no_some h
theorem reads_data (R : Rel cx H ρ s) : ∀ (n : Nat) {m : Val} {v : Value} {d : PyData}, VR cx ρ s.heap m v → dataOf H n m = some d → (∃ as, Reads s.heap v d as) ∧ d.canLay0 = true ∧ d.depth ≤ n := by
  intro n
  induction n with
  | zero => exact fun x h => reads_flat x h
  | succ n ih =>
    intro m v d x h
    cases x with
    | @tup a vs k ms e no z r =>
      refine hideG fun G kG => ?_
      obtain ⟨ds, h1, rfl⟩ := Option.map_eq_some_iff.mp h
      obtain ⟨⟨as, g1⟩, g2, g3⟩ := reads_dats (n := n) (fun x h => ih x h) r h1
      refine kG ?_
      exact ⟨⟨_, .tuple e rfl rfl (by simpa using g1)⟩, g2, Nat.succ_le_succ g3⟩
    | @loc l p e =>
      have h : (match H[l]? with | some (.list vs) => (dats (dataOf H n) vs).map .list | _ => none) = some d := h
      cases hl : H[l]? with
      | none => rw [hl] at h; exact no_some h
      | some o =>
        rw [hl] at h
        cases o with
        | list xs =>
          refine hideG fun G kG => ?_
          obtain ⟨ds, h1, rfl⟩ := Option.map_eq_some_iff.mp h
          obtain ⟨vs, k, _, g, r, _⟩ := R.listAt hl e
          obtain ⟨⟨as, g1⟩, g2, g3⟩ := reads_dats (n := n) (fun x h => ih x h) r h1
          refine kG ?_
          exact ⟨⟨_, .list g rfl rfl (by simpa using g1)⟩, g2, Nat.succ_le_succ g3⟩
        | _ => exact no_some h
    | none => exact reads_flat (cx := cx) (ρ := ρ) .none h
    | bool b => exact reads_flat (cx := cx) (ρ := ρ) (.bool b) h
    | int i t => exact reads_flat (cx := cx) (ρ := ρ) (.int i t) h
    | str y t z => exact reads_flat (cx := cx) (ρ := ρ) (.str y t z) h
    | _ => exact no_some h
end
section
variable {cx : Cx} {A : Around} {P : Amb} {a b : Val} {v w : Value} {H : Hp} {ρ : Rho} {s : Shared}
theorem shaped_of {d : PyData} (h : d.canLay0 = true) (k : d.depth ≤ deep) : SeqAt.shaped d = true := by
  unfold SeqAt.shaped; rw [h]; exact decide_eq_true (Nat.le_trans k (show 6 ≤ 64 by decide))
theorem wp_eq (R : Rel cx H ρ s) (x : VR cx ρ s.heap a v) (y : VR cx ρ s.heap b w) {r : Bool} (e : pyEq H a b = some r) (hu : A.units + 100 < cLine) {Q : Value → Shared → Prop} {E : Value → Shared → Prop} (k : Q (.bool r) s) :
    wpAny (model cx.prog cx.w) A (compareOp .Eq v w) Q E s := by
  revert k
  refine eq_el (C := fun r => Q (.bool r) s → _) e fun d1 d2 e1 e2 k => ?_
  refine hideG fun G kG => ?_
  obtain ⟨⟨as, g1⟩, g2, g3⟩ := reads_data R deep x e1
  obtain ⟨⟨bs, f1⟩, f2, f3⟩ := reads_data R deep y e2
  refine kG ?_
  exact SeqAt.compareEq_shaped g1 f1 (shaped_of g2 g3) (shaped_of f2 f3) (by omega) k
theorem wp_ne (R : Rel cx H ρ s) (x : VR cx ρ s.heap a v) (y : VR cx ρ s.heap b w) {r : Bool} (e : pyEq H a b = some r) (hu : A.units + 100 < cLine) {Q : Value → Shared → Prop} {E : Value → Shared → Prop} (k : Q (.bool (!r)) s) :
    wpAny (model cx.prog cx.w) A (compareOp .NotEq v w) Q E s := by
  revert k
  refine eq_el (C := fun r => Q (.bool (!r)) s → _) e fun d1 d2 e1 e2 k => ?_
  refine hideG fun G kG => ?_
  obtain ⟨⟨as, g1⟩, g2, g3⟩ := reads_data R deep x e1
  obtain ⟨⟨bs, f1⟩, f2, f3⟩ := reads_data R deep y e2
  refine kG ?_
  exact SeqAt.compareNe_shaped g1 f1 (shaped_of g2 g3) (shaped_of f2 f3) (by omega) k
theorem isV_none_val {r : Bool} (x : VR cx ρ s.heap a v) (h : isV a .none = some r) : r = (v == .none) := by
  cases x with
  | none => exact (Option.some.inj h).symm
  | _ => exact (Option.some.inj h).symm
set_option tactic.hygienic true in
theorem isV_bool_val {r y : Bool} (x : VR cx ρ s.heap a v) (h : isV a (.bool y) = some r) : plainIs v (.bool y) = true ∧ r = (v == .bool y) := by
  cases x <;> simp_all [isV, plainIs]
  rename_i b
  rw [← h]; cases b <;> cases y <;> rfl
theorem Rel.dictAt (R : Rel cx H ρ s) {l : Nat} {es : List (Key × Val)} {p : Addr × Addr} (hH : H[l]? = some (.dict es)) (hρ : ρ[l]? = some p) :
    ∃ xs, p.2 = p.1 ∧ s.heap.DictOfH (cellKind cx) p.1 xs ∧ DRs cx ρ s.heap es xs ∧ es.length ≤ sizeLine := by
  have := R.objs l _ p hH hρ
  generalize ho : HObj.dict es = o at this
  cases this with
  | list e r z => exact nomatch ho
  | dict d r z => cases ho; exact ⟨_, rfl, d, r, z⟩
  | inst _ _ _ _ _ _ _ _ _ _ => exact nomatch ho
  | hid _ => cases ho
theorem int_is {k : Int} {t : Tok} : (intKind cx.prog cx.w).is k (.int k t) = true := by simp [intKind, Value.isInt]
theorem key_is {k : Key} (x : VR cx ρ s.heap a v) (h : keyOf a = some k) : ∃ b, v = .ref b ∧ (cellKind cx).is s.heap [k.1, k.2] b ∧ ¬ Owned ρ b := by
  rw [key_el h] at x
  cases x with
  | @tup b vs n ms e no z r =>
    refine hideG fun G kG => ?_
    obtain ⟨u, w, ev, r1, r2⟩ := r.two_inv
    obtain ⟨t1, e1⟩ := r1.int_inv
    obtain ⟨t2, e2⟩ := r2.int_inv
    refine kG ?_
    exact ⟨b, rfl, ⟨_, vs.toArray, n, e, rfl, rfl, ev ▸ e1 ▸ e2 ▸ .cons int_is (.cons int_is .nil)⟩, no⟩
theorem DRs.atKey {es : List (Key × Val)} {xs : List (List Int × Addr × Value)} (r : DRs cx ρ s.heap es xs) (k : Key) :
    match dget es k, atKey xs [k.1, k.2] with
    | some m, some p => VR cx ρ s.heap m p.2
    | none, none => True
    | _, _ => False := by
  induction r with
  | nil => simp [dget, PySem.atKey]
  | @cons k' v' b x es xs a n _ ih =>
    by_cases q : k' = k
    · refine q ▸ ?_
      simp [dget, PySem.atKey, a]
    · have q' : ¬ ([k'.1, k'.2] = [k.1, k.2]) := fun e => q (by
        simp only [List.cons.injEq, and_true] at e
        exact Prod.ext e.1 e.2)
      have q2 : (k == k') = false := by simpa using fun e : k = k' => q e.symm
      have e1 : dget ((k', v') :: es) k = dget es k := by simp [dget, List.lookup_cons, q2]
      have e2 : PySem.atKey (([k'.1, k'.2], b, x) :: xs) [k.1, k.2] = PySem.atKey xs [k.1, k.2] := by
        unfold PySem.atKey
        rw [List.find?_cons]
        simp only [decide_eq_false q']
      rw [e1, e2]
      exact ih
theorem DRs.isSome {es : List (Key × Val)} {xs : List (List Int × Addr × Value)} (r : DRs cx ρ s.heap es xs) (k : Key) : (PySem.atKey xs [k.1, k.2]).isSome = (dget es k).isSome := by
  have := r.atKey k
  cases h1 : dget es k <;> cases h2 : PySem.atKey xs [k.1, k.2] <;> simp_all
theorem not_sysModules (R : Rel cx H ρ s) {l : Nat} {p : Addr × Addr} (hρ : ρ[l]? = some p) : (p.1 == sysModules) = false := by
  obtain ⟨o, e⟩ := R.sys
  have := (R.new p (List.mem_of_getElem? hρ)).1
  simpa using fun w : p.1 = sysModules => by rw [w, e] at this; exact nomatch this
theorem in_all (R : Rel cx H ρ s) (x : VR cx ρ s.heap a v) (y : VR cx ρ s.heap b w) {r : Bool} (e : inV a b H = some r) {C : Value → Value → Bool → Prop}
    (k1 : ∀ {p d ds as bs}, Reads s.heap (.ref p) (.list ds) bs → Reads s.heap v d as → PyData.canLayAll0 ds = true → d.canLay0 = true → min (PyData.depthAll ds) d.depth ≤ 6 → C v (.ref p) (ds.any fun y => PyData.eqv y d))
    (k2 : ∀ {p : Addr} {bb : Addr} {kk : Key} {xs}, (cellKind cx).is s.heap [kk.1, kk.2] bb → (p == sysModules) = false → s.heap.DictOfH (cellKind cx) p xs → C (.ref bb) (.ref p) (PySem.atKey xs [kk.1, kk.2]).isSome)
    (k3 : ∀ x y t u, C (.str x t) (.str y u) (Txt.contains y x)) : C v w r := by
  cases y with
  | @loc l p hp =>
    refine in_el (C := C v (.ref p.1)) e (fun ys hl e => ?_) fun es k hl ek => ?_
    · obtain ⟨vs, n, _, g, rr, _⟩ := R.listAt hl hp
      refine inl_el (C := C v (.ref p.1)) e fun d ds e1 e2 => ?_
      refine hideG fun G kG => ?_
      obtain ⟨⟨as, g1⟩, g2, g3⟩ := reads_data R deep x e1
      obtain ⟨⟨bs, f1⟩, f2, f3⟩ := reads_dats (n := deep) (fun x h => reads_data R deep x h) rr e2
      refine kG ?_
      exact k1 (.list g rfl rfl (by simpa using f1)) g1 f2 g2 (Nat.le_trans (Nat.min_le_right _ _) g3)
    · obtain ⟨xs, _, D, rr, _⟩ := R.dictAt hl hp
      obtain ⟨bb, hr0, hk, _⟩ := key_is x ek; refine Eq.symm hr0 ▸ ?_
      exact rr.isSome k ▸ k2 hk (not_sysModules R hp) D
  | str y t z =>
    cases x with
    | str x t' z' => exact Option.some.inj e ▸ k3 _ _ _ _
    | _ => exact no_some e
  | _ => exact no_some e
theorem wp_in (R : Rel cx H ρ s) (x : VR cx ρ s.heap a v) (y : VR cx ρ s.heap b w) {r : Bool} (e : inV a b H = some r) (hu : A.units + 100 < cLine) {Q : Value → Shared → Prop} {E : Value → Shared → Prop} (k : ∀ tk, Q (.bool r) { s with toks := tk }) :
    wpAny (model cx.prog cx.w) A (compareOp .In v w) Q E s :=
  in_all (C := fun v w r => (∀ tk, Q (.bool r) { s with toks := tk }) → wpAny (model cx.prog cx.w) A (compareOp .In v w) Q E s) R x y e
    (fun f g f2 g2 z k => SeqAt.in_list_reads f g f2 g2 (Nat.lt_of_le_of_lt (Nat.add_le_add_left z _) (by omega)) (k s.toks))
    (fun hk q D k => wpAny_in_heap (knd := cellKind cx) (tupleKind_room_in1 (by omega)) hk q D (k _))
    (fun _ _ _ _ k => SB.contains (k s.toks)) k
theorem wp_notin (R : Rel cx H ρ s) (x : VR cx ρ s.heap a v) (y : VR cx ρ s.heap b w) {r : Bool} (e : inV a b H = some r) (hu : A.units + 100 < cLine) {Q : Value → Shared → Prop} {E : Value → Shared → Prop} (k : ∀ tk, Q (.bool (!r)) { s with toks := tk }) :
    wpAny (model cx.prog cx.w) A (compareOp .NotIn v w) Q E s :=
  in_all (C := fun v w r => (∀ tk, Q (.bool (!r)) { s with toks := tk }) → wpAny (model cx.prog cx.w) A (compareOp .NotIn v w) Q E s) R x y e
    (fun f g f2 g2 z k => SeqAt.notIn_list_reads f g f2 g2 (Nat.lt_of_le_of_lt (Nat.add_le_add_left z _) (by omega)) (k s.toks))
    (fun hk q D k => PyProof.Rows.wpAny_notIn_heap (knd := cellKind cx) (tupleKind_room_in1 (by omega)) hk q D (k _))
    (fun _ _ _ _ k => SB.notContains (k s.toks)) k
theorem dats_mono {f g : Val → Option PyData} (h : ∀ m d, f m = some d → g m = some d) : ∀ {xs : List Val} {ds : List PyData}, dats f xs = some ds → dats g xs = some ds
  | [], ds, e => e
  | x :: xs, ds, e => by
    refine dats_el (C := fun ds => dats g (x :: xs) = some ds) e fun d ds' e1 e2 => ?_
    show (match g x, dats g xs with
      | some d, some ds => some (d :: ds)
      | _, _ => none) = _
    rw [h _ _ e1, dats_mono h e2]
theorem data_nil : ∀ (n : Nat) (m : Val) (d : PyData), dataOf [] n m = some d → dataOf H n m = some d
  | 0, m, d, e => by cases m <;> exact e
  | n + 1, m, d, e => by
    cases m with
    | tup vs =>
      obtain ⟨ds, e1, e2⟩ := Option.map_eq_some_iff.mp e
      exact Option.map_eq_some_iff.mpr ⟨ds, dats_mono (data_nil n) e1, e2⟩
    | loc l => exact no_some e
    | _ => exact e
theorem eq_nil {r : Bool} (h : pyEq [] a b = some r) : pyEq H a b = some r := by
  refine eq_el (C := fun r => pyEq H a b = some r) h fun d1 d2 e1 e2 => ?_
  delta pyEq
  rw [data_nil _ _ _ e1, data_nil _ _ _ e2]
theorem VR.tup_inv {h : Heap} {ms : List Val} (x : VR cx ρ h (.tup ms) v) : ∃ p vs n, v = .ref p ∧ h.get? p = some (tupO vs n) ∧ VRs cx ρ h ms vs := by cases x; exact ⟨_, _, _, rfl, by assumption, by assumption⟩
theorem wp_eqBool (R : Rel cx H ρ s) (x : VR cx ρ s.heap a v) (y : VR cx ρ s.heap b w) {r : Bool} (e : pyEq H a b = some r) (hu : A.units + 10 < cLine) {Q : Bool → Shared → Prop} {E : Value → Shared → Prop} (k : Q r s) :
    wpAny (model cx.prog cx.w) A (eqBool v w) Q E s := by
  revert k
  refine eq_el (C := fun r => Q r s → _) e fun d1 d2 e1 e2 k => ?_
  refine hideG fun G kG => ?_
  obtain ⟨⟨as, g1⟩, g2, g3⟩ := reads_data R deep x e1
  obtain ⟨⟨bs, f1⟩, f2, f3⟩ := reads_data R deep y e2
  refine kG ?_
  exact SeqAt.eqBoolOverData _ _ _ _ _ _ _ _ _ _ _ _ g1 f1 g2 f2 (Nat.lt_of_le_of_lt (Nat.add_le_add_left (Nat.le_trans (Nat.min_le_left _ _) g3) _) (show A.units + 6 < cLine by omega)) k
theorem wp_ltN (R : Rel cx H ρ s) : ∀ (n : Nat) (A : Around) (a b : Val) (v w : Value) (r : Bool) (Q : Value → Shared → Prop) (E : Value → Shared → Prop), VR cx ρ s.heap a v → VR cx ρ s.heap b w → pyLt n a b = some r → A.units + 20 + n < cLine → Q (.bool r) s → wpAny (model cx.prog cx.w) A (richCompare .Lt v w) Q E s
  | 0, _, _, _, _, _, _, _, _, _, _, h, _, _ => by exact no_some h
  | n + 1, A, a, b, v, w, r, Q, E, x, y, h, hu, k => by
    refine lt_el (C := fun a b r => VR cx ρ s.heap a v → VR cx ρ s.heap b w → Q (.bool r) s → _) h (fun i j x y k => ?_) (fun ms ks h x y k => ?_) x y k
    · obtain ⟨t, hr0⟩ := x.int_inv; refine Eq.symm hr0 ▸ ?_
      obtain ⟨u, hr1⟩ := y.int_inv; refine Eq.symm hr1 ▸ ?_
      exact PyProof.Rows.lt_int k
    · obtain ⟨p, vs, n1, hr2, g1, r1⟩ := x.tup_inv; refine Eq.symm hr2 ▸ ?_
      obtain ⟨q, ws, n2, hr3, g2, r2⟩ := y.tup_inv; refine Eq.symm hr3 ▸ ?_
      have T1 : s.TypeIs (.ref p) "tuple" := ⟨_, g1, rfl⟩
      have T2 : s.TypeIs (.ref q) "tuple" := ⟨_, g2, rfl⟩
      refine wpAny_richCompare_same_room (T := "tuple") T1 T2 F.slot_tuple_lt (wpAny_call_entry F.slot_tuple_lt T1 F.entry_tuple_lt ?_ (F.args_tuple_lt_2 _ _)) (by omega)
      have fin : ∀ (z : Bool), z = r → (∃ v, (Fin.done (.ret (.bool z)) : Fin) = .done (.ret v) ∧ v ≠ .notImplemented ∧ Q v s) := fun z e => ⟨.bool z, rfl, by simp, by rw [e]; exact k⟩
      show wpAny _ _ (isInstance (.ref q) (.type "tuple") >>= _) _ _ s
      refine wpAny_bind (wpAny_isInstance T2 isSubtype_tuple_tuple ?_)
      simp only [Bool.not_true, Bool.false_eq_true, if_false]
      refine wpAny_bind (wpAny_tupleItemsOf g1 rfl ?_)
      refine wpAny_bind (wpAny_tupleItemsOf g2 rfl ?_)
      refine wpAny_bind ?_
      refine wpAny_forIn_list _
        (fun rest z s' => z.1 = none ∧ s' = s ∧ ∃ ms' ks' vs' ws', rest = List.zip vs' ws' ∧ VRs cx ρ s.heap ms' vs' ∧ VRs cx ρ s.heap ks' ws' ∧ lts (pyEq []) (pyLt n) ms' ks' = some r ∧ decide (vs'.length < ws'.length) = decide (vs.toArray.size < ws.toArray.size))
        _ ?_ ?_ _ _ ⟨rfl, rfl, ms, ks, vs, ws, rfl, r1, r2, h, by simp⟩
      · intro ce rest z s' zz
        obtain ⟨hz, hs', ms', ks', vs', ws', hzip, q1, q2, hl, hlen⟩ := zz
        obtain ⟨c, e⟩ := ce
        rw [hs']
        clear hs' s'
        cases q1 with
        | nil => simp at hzip
        | cons a1 q1 =>
          cases q2 with
          | nil => simp at hzip
          | cons a2 q2 =>
            simp only [List.zip_cons_cons, List.cons.injEq, Prod.mk.injEq] at hzip
            obtain ⟨⟨rfl, rfl⟩, rfl⟩ := hzip
            rcases lts_cons hl with ⟨he, hl'⟩ | ⟨he, hl'⟩
            · refine wpAny_bind (wp_eqBool R a1 a2 (eq_nil he) (by simp only [Around.in1_units]; omega) ?_)
              simp only [Bool.not_true, Bool.false_eq_true, if_false]
              exact wpAny_pure ⟨rfl, rfl, _, _, _, _, rfl, q1, q2, hl', by simpa using hlen⟩
            · refine wpAny_bind (wp_eqBool R a1 a2 (eq_nil he) (by simp only [Around.in1_units]; omega) ?_)
              simp only [Bool.not_false, if_true]
              refine wpAny_bind (wpAny_rule ?_)
              refine wpAny_bind (wp_ltN R n A.in1 _ _ _ _ r _ _ a1 a2 hl' (by simp only [Around.in1_units]; omega) ?_)
              exact wpAny_bind (wpAny_pure (wpAny_pure (wpAny_pure (fin r rfl))))
      · intro z s' zz
        obtain ⟨hz, hs', ms', ks', vs', ws', hzip, q1, q2, hl, hlen⟩ := zz
        obtain ⟨z1, z2⟩ := z
        rw [hs']
        clear hs' s'
        simp only at hz
        subst hz
        refine wpAny_pure ?_
        refine fin _ ?_
        rw [← hlen]
        cases q1 with
        | nil =>
          cases q2 with
          | nil => exact Option.some.inj hl
          | cons a2 q2 => exact Option.some.inj hl
        | cons a1 q1 =>
          cases q2 with
          | nil => exact Option.some.inj hl
          | cons a2 q2 => simp at hzip
theorem ints2 {p : Int → Int → Bool} {r : Bool} {C : Value → Value → Bool → Prop} {h : Heap} (e : intB p a b = some r) (x1 : VR cx ρ h a v) (x2 : VR cx ρ h b w) (k : ∀ x y t u, C (.int x t) (.int y u) (p x y)) : C v w r := by
  refine int_el (C := fun a b r => VR cx ρ h a v → VR cx ρ h b w → C v w r) e (fun x y x1 x2 => ?_) x1 x2
  obtain ⟨t, e1⟩ := x1.int_inv
  obtain ⟨u, e2⟩ := x2.int_inv
  exact e1 ▸ e2 ▸ k _ _ _ _
theorem is_el {r : Bool} {C : Value → Prop} (e : isV a b = some r) (x1 : VR cx ρ s.heap a v) (x2 : VR cx ρ s.heap b w) (k0 : r = (v == .none) → C .none) (kb : ∀ y, plainIs v (.bool y) = true → r = (v == .bool y) → C (.bool y)) : C w := by
  cases b with
  | none => cases x2; exact k0 (isV_none_val x1 e)
  | bool y => cases x2; exact kb y (isV_bool_val x1 e).1 (isV_bool_val x1 e).2
  | _ => exact no_some e
theorem sim_cmp (hu : A.units + 100 < cLine) {op : COp} (h1 : ∀ ρ h, P.P ρ h → VR cx ρ h a v) (h2 : ∀ ρ h, P.P ρ h → VR cx ρ h b w) :
    Sim cx A P (compareOp (cmOp op) v w) ((M.look (cmpV op a b)).bnd fun r => M.ret (Val.bool r)) (Amb.vr cx) := by
  intro H ρ s R p
  have x1 := h1 _ _ p
  have x2 := h2 _ _ p
  cases e : cmpV op a b H with
  | none => rw [bnd_bad (show M.look (cmpV op a b) H = .bad by unfold M.look; rw [e])]; trivial
  | some r =>
    rw [bnd_ok (show M.look (cmpV op a b) H = .ok r H by unfold M.look; rw [e])]
    refine simAt_pure R fun Q E k => ?_
    have k' : ∀ tk, Q (.bool r) { s with toks := tk } := fun tk => k _ tk (.bool r)
    cases op with
    | eq => exact wp_eq R x1 x2 e hu (k' s.toks)
    | ne =>
      obtain ⟨r', e', rfl⟩ := flip_some e
      exact wp_ne R x1 x2 e' hu (k' s.toks)
    | lt => exact wp_ltN R deep A a b v w r _ _ x1 x2 e (by show A.units + 20 + 6 < cLine; omega) (k' s.toks)
    | le => exact ints2 (C := fun v w r => Q (.bool r) s → wpAny (model cx.prog cx.w) A (compareOp .LtE v w) Q E s) e x1 x2 (fun _ _ _ _ => PyProof.Rows.le_int) (k' s.toks)
    | gt => exact ints2 (C := fun v w r => Q (.bool r) s → wpAny (model cx.prog cx.w) A (compareOp .Gt v w) Q E s) e x1 x2 (fun _ _ _ _ => PyProof.Rows.gt_int) (k' s.toks)
    | is => exact is_el (C := fun w => wpAny (model cx.prog cx.w) A (compareOp .Is v w) Q E s) e x1 x2 (fun h => is_none (h ▸ k' s.toks)) fun y q1 h => wpAny_is_plain q1 (h ▸ k' s.toks)
    | isin => exact wp_in R x1 x2 e hu k'
    | notin =>
      obtain ⟨r', e', rfl⟩ := flip_some (show flip true (inV a b H) = some r from e)
      exact wp_notin R x1 x2 e' hu k'
end
end Mine
-- part MSub
namespace Mine
open PySem PyProof.Rows
theorem subscripted_any (slice : Expr) (o i : Value) : ∃ ops, subscripted slice false o i = operate ops (getItem o i) := by
  have h : ∃ ops, operate [o, i] (getItem o i) = operate ops (getItem o i) := ⟨_, rfl⟩
  cases slice with
  | Slice a b c d =>
    cases c with
    | none => exact ⟨_, rfl⟩
    | some _ => exact h
  | _ => exact h
set_option tactic.hygienic true in
theorem placeOf_seq {k : Int} {n p : Nat} (h : placeOf k n = some p) : seqIndex? k n = some p ∧ p < n ∧ -(n : Int) ≤ k ∧ k < n := by
  unfold placeOf at h
  split at h
  · split at h
    · cases h
      rename_i h0 h1
      exact ⟨seqIndex_of h0 h1, by omega, by omega, h1⟩
    · exact no_some h
  · split at h
    · cases h
      rename_i h0 h1
      exact ⟨seqIndex_neg (by omega) h1, by omega, h1, by omega⟩
    · exact no_some h
section
variable {cx : Cx} {A : Around} {P : Amb} {a b : Val} {v w : Value} {H : Hp} {ρ : Rho} {s : Shared}
set_option tactic.hygienic true in
theorem wp_listItem {l : Addr} {vs : List Value} {n : Nat} {k : Int} {u : Tok} {p : Nat} {x : Value} {Q : Value → Shared → Prop} {E : Value → Shared → Prop} (g : s.heap.get? l = some (listO vs n)) (z : vs.length ≤ sizeLine) (hp : placeOf k vs.length = some p) (hx : vs[p]? = some x) (h : Q x s) :
    wpAny (model cx.prog cx.w) A (getItem (.ref l) (.int k u)) Q E s := by
  have L : s.heap.IsList l vs.toArray := ⟨_, g, rfl, n, rfl⟩
  rw [sizeLine_eq] at z
  unfold placeOf at hp
  split at hp
  · split at hp
    · cases hp
      rename_i h0 h1
      exact wpAny_getItem_list L h0 (by omega) (by simpa using hx) h
    · exact no_some hp
  · split at hp
    · cases hp
      rename_i h0 h1
      exact wpAny_getItem_list_neg L (by omega) (by simpa using h1) (by omega) (by simpa using hx) h
    · exact no_some hp
theorem sub_list {value slice : Expr} {l : Addr} {vs : List Value} {xs : List Val} {n : Nat} {i : Int} {u : Tok} {r : Val} {Q E : Value → Shared → Prop} (g : s.heap.get? l = some (listO vs n)) (rr : VRs cx ρ s.heap xs vs) (z : xs.length ≤ sizeLine)
    (e : ((placeOf i xs.length).bind fun p => xs[p]?) = some r) (k : ∀ x tk, VR cx ρ s.heap r x → Q x { s with toks := tk }) : wpAny (model cx.prog cx.w) A (subscriptTail value slice (.ref l) (.int i u)) Q E s := by
  refine hideG fun G kG => ?_
  obtain ⟨ops, hops⟩ := subscripted_any slice (.ref l) (.int i u)
  obtain ⟨pl, e1, e2⟩ := Option.bind_eq_some_iff.mp e
  obtain ⟨x, ex, vx⟩ := rr.get e2
  refine kG ?_
  rw [rr.length] at z e1
  exact tail_any (T := "list") (Heap.IsList.typeIs (s := s) ⟨_, g, rfl, n, rfl⟩) PySem.slot_list_getitem.lookup (wp_listItem g z e1 ex (k _ s.toks vx)) hops
theorem sub_dict {value slice : Expr} {q : Addr × Addr} {l : Nat} {es : List (Key × Val)} {r : Val} {Q E : Value → Shared → Prop} (hu : A.units + 100 < cLine) (R : Rel cx H ρ s) (hl : H[l]? = some (.dict es)) (hq : ρ[l]? = some q) (x2 : VR cx ρ s.heap b w) (e : ((keyOf b).bind (dget es)) = some r)
    (k : ∀ x tk, VR cx ρ s.heap r x → Q x { s with toks := tk }) : wpAny (model cx.prog cx.w) A (subscriptTail value slice (.ref q.1) w) Q E s := by
  refine hideG fun G kG => ?_
  obtain ⟨ops, hops⟩ := subscripted_any slice (.ref q.1) w
  obtain ⟨kk, e1, e2⟩ := Option.bind_eq_some_iff.mp e
  obtain ⟨xs, _, D, rr, _⟩ := R.dictAt hl hq
  obtain ⟨bb, rfl, hk, _⟩ := key_is x2 e1
  refine kG ?_
  have at' := rr.atKey kk
  rw [e2] at at'
  cases hp : atKey xs [kk.1, kk.2] with
  | none => rw [hp] at at'; exact at'.elim
  | some pr =>
    rw [hp] at at'
    exact tail_any (T := "dict") D.typeIs PySem.slot_dict_getitem.lookup (wpAny_getItem_heap (knd := cellKind cx) (tupleKind_room_in1 (by clear at' rr; omega)) hk D hp (k _ _ at')) hops
theorem sub_tup {value slice : Expr} {t : Addr} {vs : List Value} {ms : List Val} {n : Nat} {i : Int} {u : Tok} {r : Val} {Q E : Value → Shared → Prop} (g : s.heap.get? t = some (tupO vs n)) (rr : VRs cx ρ s.heap ms vs) (z : ms.length ≤ sizeLine)
    (h0 : 0 ≤ i) (e : ms[i.toNat]? = some r) (k : ∀ x tk, VR cx ρ s.heap r x → Q x { s with toks := tk }) : wpAny (model cx.prog cx.w) A (subscriptTail value slice (.ref t) (.int i u)) Q E s := by
  refine hideG fun G kG => ?_
  obtain ⟨ops, hops⟩ := subscripted_any slice (.ref t) (.int i u)
  obtain ⟨x, ex, vx⟩ := rr.get e
  refine kG ?_
  have lt := (List.getElem?_eq_some_iff.mp ex).1
  rw [rr.length, sizeLine_eq] at z
  refine tail_any (T := "tuple") (Heap.IsTuple.typeIs (s := s) ⟨_, g, rfl, n, rfl⟩) slot_tuple_getitem.lookup ?_ hops
  exact getItem_tuple (items := vs.toArray) ⟨_, g, rfl, n, rfl⟩ (by omega) (by omega) (seqIndex_of h0 (by simp only [List.size_toArray]; omega)) (by simpa using ex) (k _ s.toks vx)
theorem sub_str {value slice : Expr} {x : Str} {t : Tok} {i : Int} {u : Tok} {r : Val} {Q E : Value → Shared → Prop} (z : x.length ≤ sizeLine) (e : ((placeOf i x.length).bind fun p => (x.cps[p]?).map fun c => Val.str ⟨#[c]⟩) = some r)
    (k : ∀ x tk, VR cx ρ s.heap r x → Q x { s with toks := tk }) : wpAny (model cx.prog cx.w) A (subscriptTail value slice (.str x t) (.int i u)) Q E s := by
  refine hideG fun G kG => ?_
  obtain ⟨ops, hops⟩ := subscripted_any slice (.str x t) (.int i u)
  obtain ⟨pl, e1, e3⟩ := Option.bind_eq_some_iff.mp e
  obtain ⟨c, e2, rfl⟩ := Option.map_eq_some_iff.mp e3
  obtain ⟨q1, q2, q3, q4⟩ := placeOf_seq e1
  refine kG ?_
  rw [sizeLine_eq] at z
  refine tail_any (T := "str") (typeIs_str s x t) PyProof.Rows.slot_str_getitem.lookup ?_ hops
  refine PyProof.Rows.getItem_str (c := c) ?_ (by rw [q1]; exact e2) (k _ _ (.str _ _ (by show 1 ≤ sizeLine; decide)))
  simp only [Bool.or_eq_false_iff, decide_eq_false_iff_not]
  omega
theorem VR.tup_inv' {ms : List Val} {h : Heap} (x : VR cx ρ h (.tup ms) v) : ∃ p vs n, v = .ref p ∧ h.get? p = some (tupO vs n) ∧ VRs cx ρ h ms vs ∧ ms.length ≤ sizeLine := by cases x; exact ⟨_, _, _, rfl, by assumption, by assumption, by assumption⟩
theorem VR.script_inv {ns : List Int} {h : Heap} (x : VR cx ρ h (.script ns) v) : ∃ p vs n, v = .ref p ∧ cx.h₀.get? p = some (listO vs n) ∧ VRs cx ρ h (ns.map .int) vs ∧ ns.length ≤ sizeLine := by cases x; exact ⟨_, _, _, rfl, by assumption, by assumption, by assumption⟩
theorem script_bind {ns : List Int} {i : Int} {r : Val} (e : ((placeOf i ns.length).bind fun p => (ns[p]?).map Val.int) = some r) : ((placeOf i (ns.map Val.int).length).bind fun p => (ns.map Val.int)[p]?) = some r := by
  rw [List.length_map, ← e]
  congr 1
  funext p
  rw [List.getElem?_map]
set_option tactic.hygienic true in
theorem sim_subTail {value slice : Expr} (hu : A.units + 100 < cLine) (h1 : ∀ ρ h, P.P ρ h → VR cx ρ h a v) (h2 : ∀ ρ h, P.P ρ h → VR cx ρ h b w) : Sim cx A P (subscriptTail value slice v w) (subV a b) (Amb.vr cx) := by
  refine Sim.look fun H ρ s r R p e Q E k => ?_
  have x1 := h1 _ _ p
  have x2 := h2 _ _ p
  clear h1 h2 p
  cases a with
  | loc l =>
    obtain ⟨q, hq, hr0⟩ := x1.loc_inv; refine Eq.symm hr0 ▸ ?_
    cases hl : H[l]? with
    | none => dsimp only at e; rw [hl] at e; exact no_some e
    | some o =>
      dsimp only at e
      rw [hl] at e
      cases o with
      | list xs =>
        cases b with
        | int i =>
          obtain ⟨u, hr1⟩ := x2.int_inv; refine Eq.symm hr1 ▸ ?_
          obtain ⟨vs, n, _, g, rr, z⟩ := R.listAt hl hq
          exact sub_list g rr z e k
        | _ => exact no_some e
      | dict es => exact sub_dict hu R hl hq x2 e k
      | _ => exact no_some e
  | tup ms =>
    cases b with
    | int i =>
      obtain ⟨u, rfl⟩ := x2.int_inv
      obtain ⟨t, vs, n, rfl, g, rr, z⟩ := x1.tup_inv'
      have e : (if 0 ≤ i then ms[i.toNat]? else none) = some r := e
      split at e
      · rename_i h0; exact sub_tup g rr z h0 e k
      · exact no_some e
    | _ => exact no_some e
  | script ns =>
    cases b with
    | int i =>
      obtain ⟨u, rfl⟩ := x2.int_inv
      obtain ⟨t, vs, n, rfl, g, rr, z⟩ := x1.script_inv
      exact sub_list (R.base _ _ g) rr (by rw [List.length_map]; exact z) (script_bind e) k
    | _ => exact no_some e
  | str x =>
    cases b with
    | int i =>
      obtain ⟨u, rfl⟩ := x2.int_inv
      obtain ⟨t, hr7, z⟩ := x1.str_inv; refine Eq.symm hr7 ▸ ?_
      exact sub_str z e k
    | _ => exact no_some e
  | _ => exact no_some e
end
end Mine
-- part MBf
namespace Mine
open PySem
section
variable {cx : Cx} {A : Around} {P : Amb} {a b : Val} {v w : Value} {H : Hp} {ρ : Rho} {s : Shared}
noncomputable def KdIs (s : Shared) (v : Value) : Kd → Prop
  | .none => v = .none
  | .bool => ∃ b, v = .bool b
  | .int => ∃ i t, v = .int i t
  | .str => ∃ y t, v = .str y t
  | .tuple => ∃ p o, v = .ref p ∧ s.heap.get? p = some o ∧ o.cls = .type "tuple"
  | .list => ∃ p o, v = .ref p ∧ s.heap.get? p = some o ∧ o.cls = .type "list"
  | .dict => ∃ p o, v = .ref p ∧ s.heap.get? p = some o ∧ o.cls = .type "dict"
theorem kd_is (R : Rel cx H ρ s) (x : VR cx ρ s.heap a v) {k : Kd} (e : kdOf H a = some k) : KdIs s v k := by
  cases x with
  | none => cases e; rfl
  | bool b => cases e; exact ⟨_, rfl⟩
  | int i t => cases e; exact ⟨_, _, rfl⟩
  | str y t z => cases e; exact ⟨_, _, rfl⟩
  | tup g _ _ _ => cases e; exact ⟨_, _, rfl, g, rfl⟩
  | script g _ _ => cases e; exact ⟨_, _, rfl, R.base _ _ g, rfl⟩
  | @loc l p hp =>
    refine kd_el (C := KdIs s (.ref p.1)) e (fun xs hl => ?_) fun es hl => ?_
    · refine hideG fun G kG => ?_
      obtain ⟨vs, n, _, g, _⟩ := R.listAt hl hp
      refine kG ?_
      exact ⟨_, _, rfl, g, rfl⟩
    · refine hideG fun G kG => ?_
      obtain ⟨xs, _, D, _⟩ := R.dictAt hl hp
      obtain ⟨o, _, _, g, ex, _⟩ := D
      refine kG ?_
      exact ⟨_, _, rfl, g, ex.1⟩
  | rng => exact no_some e
  | exc => exact no_some e
noncomputable def tyVal : Ty → Value
  | .int => .type "int"
  | .bool => .type "bool"
  | .str => .type "str"
  | .tuple => .type "tuple"
  | .list => .type "list"
  | .cls _ => .none
theorem wp_isi (R : Rel cx H ρ s) (x : VR cx ρ s.heap a v) {k : Kd} (e : kdOf H a = some k) {t : Ty} (ht : ∀ c, t ≠ .cls c) {Q : Value → Shared → Prop} {E : Value → Shared → Prop} (q : ∀ tk, Q (.bool (isKd t k)) { s with toks := tk }) :
    wpAny (model cx.prog cx.w) A (call (.builtin "isinstance") [v, tyVal t]) Q E s := by
  have d := kd_is R x e
  cases k <;> cases t
  case none.cls | bool.cls | int.cls | str.cls | tuple.cls | list.cls | dict.cls => exact absurd rfl (ht _)
  all_goals dsimp only [KdIs] at d
  case none.int => subst d; exact IsiPair.NoneType_int (q _)
  case none.bool => subst d; exact IsiPair.NoneType_bool (q _)
  case none.str => subst d; exact IsiPair.NoneType_str (q _)
  case none.tuple => subst d; exact IsiPair.NoneType_tuple (q _)
  case none.list => subst d; exact IsiPair.NoneType_list (q _)
  case bool.int => obtain ⟨b, rfl⟩ := d; exact IsiPair.bool_int (q _)
  case bool.bool => obtain ⟨b, rfl⟩ := d; exact IsiPair.bool_bool (q _)
  case bool.str => obtain ⟨b, rfl⟩ := d; exact IsiPair.bool_str (q _)
  case bool.tuple => obtain ⟨b, rfl⟩ := d; exact IsiPair.bool_tuple (q _)
  case bool.list => obtain ⟨b, rfl⟩ := d; exact IsiPair.bool_list (q _)
  case int.int => obtain ⟨i, u, rfl⟩ := d; exact IsiPair.int_int (q _)
  case int.bool => obtain ⟨i, u, rfl⟩ := d; exact IsiPair.int_bool (q _)
  case int.str => obtain ⟨i, u, rfl⟩ := d; exact IsiPair.int_str (q _)
  case int.tuple => obtain ⟨i, u, rfl⟩ := d; exact IsiPair.int_tuple (q _)
  case int.list => obtain ⟨i, u, rfl⟩ := d; exact IsiPair.int_list (q _)
  case str.int => obtain ⟨i, u, rfl⟩ := d; exact IsiPair.str_int (q _)
  case str.bool => obtain ⟨i, u, rfl⟩ := d; exact IsiPair.str_bool (q _)
  case str.str => obtain ⟨i, u, rfl⟩ := d; exact IsiPair.str_str (q _)
  case str.tuple => obtain ⟨i, u, rfl⟩ := d; exact IsiPair.str_tuple (q _)
  case str.list => obtain ⟨i, u, rfl⟩ := d; exact IsiPair.str_list (q _)
  case tuple.int => obtain ⟨p, o, rfl, g, c⟩ := d; exact IsiPair.tuple_int g c (q _)
  case tuple.bool => obtain ⟨p, o, rfl, g, c⟩ := d; exact IsiPair.tuple_bool g c (q _)
  case tuple.str => obtain ⟨p, o, rfl, g, c⟩ := d; exact IsiPair.tuple_str g c (q _)
  case tuple.tuple => obtain ⟨p, o, rfl, g, c⟩ := d; exact IsiPair.tuple_tuple g c (q _)
  case tuple.list => obtain ⟨p, o, rfl, g, c⟩ := d; exact IsiPair.tuple_list g c (q _)
  case list.int => obtain ⟨p, o, rfl, g, c⟩ := d; exact IsiPair.list_int g c (q _)
  case list.bool => obtain ⟨p, o, rfl, g, c⟩ := d; exact IsiPair.list_bool g c (q _)
  case list.str => obtain ⟨p, o, rfl, g, c⟩ := d; exact IsiPair.list_str g c (q _)
  case list.tuple => obtain ⟨p, o, rfl, g, c⟩ := d; exact IsiPair.list_tuple g c (q _)
  case list.list => obtain ⟨p, o, rfl, g, c⟩ := d; exact IsiPair.list_list g c (q _)
  case dict.int => obtain ⟨p, o, rfl, g, c⟩ := d; exact IsiPair.dict_int g c (q _)
  case dict.bool => obtain ⟨p, o, rfl, g, c⟩ := d; exact IsiPair.dict_bool g c (q _)
  case dict.str => obtain ⟨p, o, rfl, g, c⟩ := d; exact IsiPair.dict_str g c (q _)
  case dict.tuple => obtain ⟨p, o, rfl, g, c⟩ := d; exact IsiPair.dict_tuple g c (q _)
  case dict.list => obtain ⟨p, o, rfl, g, c⟩ := d; exact IsiPair.dict_list g c (q _)
noncomputable def bfVal : BF → Value
  | .len => .builtin "len"
  | .range => .type "range"
  | .list => .type "list"
  | .str => .type "str"
  | .int => .type "int"
  | .sortedSet => .none
theorem items_at (R : Rel cx H ρ s) (x : VR cx ρ s.heap a v) {xs : List Val} (e : itemsOf a H = some xs) :
    (∃ p vs n, v = .ref p ∧ s.heap.get? p = some (listO vs n) ∧ VRs cx ρ s.heap xs vs ∧ xs.length ≤ sizeLine) ∨ (∃ p vs n, v = .ref p ∧ s.heap.get? p = some (tupO vs n) ∧ VRs cx ρ s.heap xs vs ∧ xs.length ≤ sizeLine) := by
  cases x with
  | @tup p vs n ms g no z r => cases e; exact .inr ⟨_, _, _, rfl, g, r, z⟩
  | @script p vs n ns g z r => cases e; exact .inl ⟨_, _, _, rfl, R.base _ _ g, r, by rw [List.length_map]; exact z⟩
  | @loc l p hp =>
    refine hideG fun G kG => ?_
    obtain ⟨vs, n, _, g, r, z⟩ := R.listAt (items_loc e) hp
    refine kG ?_
    exact .inl ⟨_, _, _, rfl, g, r, z⟩
  | _ => exact no_some e
theorem sim_len (h1 : ∀ ρ h, P.P ρ h → VR cx ρ h a v) : Sim cx A P (call (.builtin "len") [v]) (bfV .len [a]) (Amb.vr cx) := by
  refine Sim.look fun H ρ s r R p e Q E k => ?_
  have x := h1 _ _ p
  have gen : ∀ xs, itemsOf a H = some xs → r = .int xs.length → wpAny (model cx.prog cx.w) A (call (.builtin "len") [v]) Q E s := by
    intro xs e' hr
    subst hr
    rcases items_at R x e' with ⟨p, vs, n, rfl, g, rr, z⟩ | ⟨p, vs, n, rfl, g, rr, z⟩
    · rw [sizeLine_eq] at z
      rw [rr.length] at z k
      refine PyProof.Rows.len_list (items := vs.toArray) ⟨_, g, rfl, n, rfl⟩ (by simp only [List.size_toArray]; omega) ?_
      simp only [List.size_toArray]
      exact k _ _ (.int _ _)
    · rw [sizeLine_eq] at z
      rw [rr.length] at z k
      refine PyProof.Rows.len_tuple (items := vs.toArray) ⟨_, g, rfl, n, rfl⟩ (by simp only [List.size_toArray]; omega) ?_
      simp only [List.size_toArray]
      exact k _ _ (.int _ _)
  cases x with
  | str y t z =>
    simp only [Option.some.injEq] at e
    subst e
    rw [sizeLine_eq] at z
    exact PyProof.Rows.len_str (by omega) (k _ _ (.int _ _))
  | _ =>
    simp only [Option.map_eq_some_iff] at e
    obtain ⟨xs, e1, rfl⟩ := e
    exact gen xs e1 rfl
theorem sim_range (h1 : ∀ ρ h, P.P ρ h → VR cx ρ h a v) : Sim cx A P (call (.type "range") [v]) (bfV .range [a]) (Amb.vr cx) := by
  intro H ρ s R p
  have x := h1 _ _ p
  cases x with
  | int i t =>
    show SimAt cx A ((if -1073741824 ≤ i ∧ i ≤ 1073741824 then M.ret (Val.rng i) else M.bad) H) _ _ ρ s
    by_cases q : -1073741824 ≤ i ∧ i ≤ 1073741824
    · rw [if_pos q]
      have F := Full.push ρ s.heap { cls := .type "range", data := .fields #[.int 0 s.toks, .int i t, .int 1 (s.toks + 1)] }
      exact call_range_1 ⟨ρ, F, R.push _ _, .rng (IsRange.new _ _ _ _ _ _ _) (R.fresh_not (fresh_none _)) (by omega) (by omega)⟩
    · rw [if_neg q]; trivial
  | _ => trivial
theorem simAt_listK {t : Sem Value} {xs : List Val} (R : Rel cx H ρ s) (z : xs.length ≤ sizeLine)
    (k : ∀ (Q : Value → Shared → Prop) (E : Value → Shared → Prop), (∀ h' tk vs n, (∀ b o, s.heap.get? b = some o → h'.get? b = some o) → h'.get? s.heap.objs.size = some (listO vs n) → (∀ ρ', Step ρ s.heap ρ' h' → VRs cx ρ' h' xs vs) → Q (.ref s.heap.objs.size) { s with heap := h', toks := tk }) → wpAny (model cx.prog cx.w) A t Q E s) :
    SimAt cx A (.ok (.loc H.length) (H ++ [.list xs])) t (Amb.vr cx) ρ s := by
  refine k _ _ fun h' tk vs n kp e r => ?_
  obtain ⟨F, R'⟩ := R.alloc (tk := tk) (o := .list xs) (p := (s.heap.objs.size, s.heap.objs.size)) kp ⟨fresh_none _, fresh_none _⟩
    (.list (n := n) e (r _ (Full.alloc kp ⟨fresh_none _, fresh_none _⟩).step) z)
  refine ⟨_, F, R', ?_⟩
  rw [R.len]
  exact VR.loc (p := (s.heap.objs.size, s.heap.objs.size)) (by rw [List.getElem?_append_right (Nat.le_refl _)]; simp)
theorem vrs_ints {xs : List Val} {vs : List Value} (n : Nat) (hx : xs.length = n) (hv : vs.length = n) (h : ∀ i (hi : i < n), ∃ t, xs[i]? = some (.int (i : Int)) ∧ vs[i]? = some (.int (i : Int) t)) (ρ : Rho) (hp : Heap) : VRs cx ρ hp xs vs := by
  have gen : ∀ (xs : List Val) (vs : List Value), xs.length = vs.length → (∀ i, i < xs.length → ∃ j t, xs[i]? = some (.int j) ∧ vs[i]? = some (.int j t)) → VRs cx ρ hp xs vs := by
    intro xs
    induction xs with
    | nil => intro vs h _; cases vs with
      | nil => exact .nil
      | cons _ _ => simp at h
    | cons x xs ih =>
      intro vs h k
      cases vs with
      | nil => simp at h
      | cons v vs =>
        obtain ⟨j, t, e1, e2⟩ := k 0 (by simp)
        simp at e1 e2
        subst e1 e2
        refine .cons (.int _ _) (ih vs (by simpa using h) fun i hi => ?_)
        obtain ⟨j', t', e1, e2⟩ := k (i + 1) (by simpa using hi)
        exact ⟨j', t', by simpa using e1, by simpa using e2⟩
  refine gen xs vs (hx.trans hv.symm) fun i hi => ?_
  obtain ⟨t, e1, e2⟩ := h i (by omega)
  exact ⟨_, t, e1, e2⟩
theorem sim_listOf (hh : A.handled = none) (h1 : ∀ ρ h, P.P ρ h → VR cx ρ h a v) : Sim cx A P (call (.type "list") [v]) (bfV .list [a]) (Amb.vr cx) := by
  intro H ρ s R p
  have x := h1 _ _ p
  cases x with
  | @rng q i t u w g no z1 z2 =>
    show SimAt cx A (if i ≤ 100000 then M.alloc (.list ((List.range i.toNat).map fun (k : Nat) => .int (k : Int))) H else .bad) _ _ ρ s
    by_cases hi : i ≤ 100000
    · rw [if_pos hi]
      refine simAt_listK R (by rw [List.length_map, List.length_range, sizeLine_eq]; omega) fun Q E k => ?_
      refine call_list_range (n := i.toNat) hh g (small_one (by omega) (by omega) z1 z2) (by rw [rangeSize_one]; split <;> omega) (by omega) fun h' tk acc c kp e it => ?_
      refine k h' tk acc.toList c kp (by simpa [listO] using e) fun ρ' _ => vrs_ints i.toNat (by simp) ?_ (fun j hj => ?_) _ _
      · have := it.1; simpa using this
      · have lt : j < acc.size := by rw [it.1]; exact hj
        have e0 : acc[j]? = some acc[j] := Array.getElem?_eq_getElem lt
        obtain ⟨t, ht⟩ := it.2 j _ e0
        refine ⟨t, by simp [hj], ?_⟩
        rw [ht] at e0
        simpa using e0
    · rw [if_neg hi]; trivial
  | @loc l q hq =>
    show SimAt cx A (match itemsOf (.loc l) H with
      | some xs => M.alloc (.list xs) H
      | none => .bad) _ _ ρ s
    cases e : itemsOf (.loc l) H with
    | some xs =>
      refine hideG fun G kG => ?_
      obtain ⟨vs, n, _, g, r, z⟩ := R.listAt (items_loc e) hq
      refine kG ?_
      refine simAt_listK R z fun Q E k => ?_
      refine call_list_seq q.1 (T := "list") (items := vs.toArray) (.inl rfl) g rfl rfl (fun h' c kp e => ?_) (by simp only [List.size_toArray]; rw [← r.length]; exact z)
      exact k h' s.toks vs c kp e fun ρ' st => r.step st
    | none => trivial
  | _ => trivial
end
end Mine
-- part MText
namespace Mine
open PySem
section
variable {cx : Cx} {A : Around} {P : Amb} {a b : Val} {v w : Value} {H : Hp} {ρ : Rho} {s : Shared}
theorem small_log {i : Int} (h : small i = true) : i.natAbs.log2 < 1920 := by
  have h1 := of_decide_eq_true (an1 h)
  have h2 := of_decide_eq_true (an2 h)
  by_cases z : i.natAbs = 0
  · rw [z]; decide
  · have : i.natAbs < 2 ^ 64 := by omega
    exact Nat.lt_trans ((Nat.log2_lt z).mpr this) (by decide)
theorem sim_strOf (h1 : ∀ ρ h, P.P ρ h → VR cx ρ h a v) : Sim cx A P (call (.type "str") [v]) (bfV .str [a]) (Amb.vr cx) := by
  intro H ρ s R p
  have x := h1 _ _ p
  cases x with
  | int i t =>
    show SimAt cx A ((if small i = true then M.ret (Val.str (numText i)) else M.bad) H) _ _ ρ s
    by_cases q : small i = true
    · rw [if_pos q]
      exact simAt_pure (b := Val.str (numText i)) R fun Q E k => PySem.P.str_of_int (small_log q) (k _ _ (.str _ _ (int_text_fits (small_log q))))
    · rw [if_neg q]; trivial
  | _ => trivial
theorem strs_are {h : Heap} : ∀ {xs : List Val} {ys : List Str} {vs : List Value}, strsOf xs = some ys → VRs cx ρ h xs vs → PyProof.Rows.StrsAre vs ys
  | [], ys, vs, e, r => by cases r; cases e; exact .nil
  | x :: xs, ys, vs, e, r => by
    cases r with
    | cons a r =>
      cases x with
      | str s =>
        obtain ⟨zs, e1, e2⟩ := Option.map_eq_some_iff.mp e
        subst e2
        cases a
        exact .cons _ _ (strs_are e1 r)
      | _ => exact no_some e
theorem wp_join {l : Nat} {p : Addr × Addr} {xs : List Val} {ys : List Str} {x : Str} {t : Tok} {Q E : Value → Shared → Prop} (R : Rel cx H ρ s) (hl : H[l]? = some (.list xs)) (hp : ρ[l]? = some p) (e : strsOf xs = some ys) (z : (ys.map (·.length)).sum + ys.length * x.length ≤ lid)
    (k : ∀ t' tk, Q (.str (Txt.join x ys) t') { s with toks := tk }) : wpAny (model cx.prog cx.w) A (call (.builtin "str.join") [.str x t, .ref p.1]) Q E s := by
  refine hideG fun G kG => ?_
  obtain ⟨vs, n, _, g, r, _⟩ := R.listAt hl hp
  refine kG ?_
  exact PyProof.Rows.join_list (items := vs.toArray) ⟨_, g, rfl, n, rfl⟩ (strs_are e r) z k
theorem wp_intText {x : Str} {t : Tok} {n : Int} {Q E : Value → Shared → Prop} (hn : PySem.intText? x = some n) (hl : x.length ≤ 640) (k : ∀ t' tk, Q (.int n t') { s with toks := tk }) : wpAny (model cx.prog cx.w) A (call (.type "int") [.str x t]) Q E s := PySem.W.KIN.call_text hn hl (k _ _)
theorem fig_text {x : Str} (h : figOk x = true) (h1 : 1 ≤ x.length) (h2 : x.length ≤ 640) : PySem.intText? x = some ((figVal x : Nat) : Int) := by
  refine PySem.intText_digits (x := x) (fun c hc => ?_) (fun e => ?_) (Nat.le_trans h2 (by decide))
  · have := List.all_eq_true.mp h c hc
    exact ⟨of_decide_eq_true (an1 this), of_decide_eq_true (an2 this)⟩
  · have : x.cps.toList.length = 0 := by rw [e]; rfl
    have h1 : 1 ≤ x.cps.size := h1
    rw [Array.length_toList] at this
    omega
theorem sim_intB (h1 : ∀ ρ h, P.P ρ h → VR cx ρ h a v) : Sim cx A P (call (.type "int") [v]) (bfV .int [a]) (Amb.vr cx) := by
  intro H ρ s R p
  have x := h1 _ _ p
  cases x with
  | bool b => exact simAt_pure R fun Q E k => call_int_bool (k _ _ (.int _ _))
  | str y t z =>
    show SimAt cx A ((if (figOk y && (decide (1 ≤ y.length) && decide (y.length ≤ 640))) = true then M.ret (Val.int (figVal y)) else M.bad) H) _ _ ρ s
    by_cases q : (figOk y && (decide (1 ≤ y.length) && decide (y.length ≤ 640))) = true
    · rw [if_pos q]
      have q2 := of_decide_eq_true (an2 (an2 q))
      exact simAt_pure (b := Val.int (figVal y)) R fun Q E k => wp_intText (fig_text (an1 q) (of_decide_eq_true (an1 (an2 q))) q2) q2 fun t' tk => k _ _ (.int _ _)
    · rw [if_neg q]; trivial
  | _ => trivial
theorem join_le {x : Str} {ys : List Str} (z : (ys.map (·.length)).sum + ys.length * x.length ≤ lid) : (Txt.join x ys).length ≤ sizeLine := by
  rw [sizeLine_lid] at z
  refine Nat.le_trans ?_ z
  show (PySem.Builtin.Str.glued x ys).length ≤ _
  rw [StrLaws.glued_eq_join]
  exact StrLaws.join_length_le x ys
theorem bm_join (b : Val) (v : Value) (ms : List Val) (vs : List Value) (hl : ms.length = 1) : Sim cx A ((Amb.vr cx b v).and (Amb.vrs cx ms vs)) (call (.builtin "str.join") (v :: vs)) (bmV .join b ms) (Amb.vr cx) := by
  intro H ρ s R ⟨x, y⟩
  obtain ⟨c, rfl⟩ := List.length_eq_one_iff.mp hl
  obtain ⟨w, rfl, y1⟩ := VRs.one_inv y
  cases x with
  | str x t z =>
    show SimAt cx A (joinV x c H) _ _ ρ s
    delta joinV M.look
    dsimp only
    cases e : (itemsL c H).bind fun xs => (strsOf xs).bind fun ys => if (ys.map (·.length)).sum + ys.length * x.length ≤ lid then some (Val.str (Txt.join x ys)) else none with
    | none => trivial
    | some r =>
      obtain ⟨xs, e1, e'⟩ := Option.bind_eq_some_iff.mp e
      obtain ⟨ys, e2, e3⟩ := Option.bind_eq_some_iff.mp e'
      obtain ⟨l, rfl, hg⟩ := itemsL_el e1
      by_cases q : (ys.map (·.length)).sum + ys.length * x.length ≤ lid
      · rw [if_pos q] at e3
        obtain ⟨p, hp, hr⟩ := VR.loc_inv y1
        refine Eq.symm hr ▸ Option.some.inj e3 ▸ ?_
        exact simAt_pure (b := Val.str (Txt.join x ys)) R fun Q E k => wp_join R hg hp e2 q fun t' tk => k _ _ (.str _ _ (join_le q))
      · rw [if_neg q] at e3; exact no_some e3
  | @loc l p hp =>
    delta bmV; dsimp only
    cases H[l]? with
    | none => trivial
    | some o => cases o <;> trivial
  | _ => trivial
end
end Mine
-- part MTextS
set_option maxRecDepth 100000
namespace Mine
open PySem PyProof.Rows PySem.Builtin PySem.Builtin.Str
section
variable {cx : Cx} {A : Around} {s : Shared}
theorem wp_split {x y : Str} {t u : Tok} {Q E : Value → Shared → Prop} (hy : (y.length == 0) = false) (hsz : x.length + 2 ≤ sizeLine)
    (h : ∀ l k, l.map (·.1) = Txt.split x y → Q (.ref s.heap.objs.size) { s with heap := s.heap.push { cls := .type "list", data := .seq (strValues l).toArray }, toks := k }) :
    wpAny (model cx.prog cx.w) A (call (.builtin "str.split") [.str x t, .str y u]) Q E s := by
  have hn : (partsBetween x (occurrences x y 0 x.length (x.length + 1)) y.length).length ≤ sizeLine := by
    have e1 := StrLaws.occ_length_le x y 0 x.length (x.length + 1)
    rw [length_partsBetween]; omega
  by_cases h1 : (decide (x.length < y.length) || decide (strKind x < strKind y)) = true
  · exact call_meets F.slot_str_split (typeIs_str _ _ _) F.entry_str_split (F.args_str_split_2 _ _) (meets_str_split_cannot_occur x y t u h1) (h [(x, t)] s.toks (if_pos h1).symm)
  · have h1' := eq_false_of_ne_true h1
    by_cases hf : (occurrences x y 0 x.length (x.length + 1)).isEmpty = true
    · exact call_meets F.slot_str_split (typeIs_str _ _ _) F.entry_str_split (F.args_str_split_2 _ _) (meets_str_split_not_found x y t u h1' hy hf) (h [(x, t)] s.toks ((if_neg h1).trans (if_pos hf)).symm)
    · refine call_meets F.slot_str_split (typeIs_str _ _ _) F.entry_str_split (F.args_str_split_2 _ _) (meets_str_split_sep x y t u h1' hy (eq_false_of_ne_true hf) (by omega) hn) ?_
      have q := fun k => h (numbered s.toks _) k ((numbered_texts _ _).trans ((if_neg h1).trans (if_neg hf)).symm)
      rw [← strsFrom_eq] at q
      exact q _
theorem vrs_strs {ρ : Rho} {h : Heap} : ∀ (l : List (Str × Tok)), (∀ p ∈ l, p.1.length ≤ sizeLine) → VRs cx ρ h ((l.map (·.1)).map .str) (strValues l)
  | [], _ => .nil
  | p :: l, k => .cons (.str _ _ (k p (.head _))) (vrs_strs l fun q hq => k q (.tail _ hq))
theorem bm_split (b : Val) (v : Value) (ms : List Val) (vs : List Value) (hl : ms.length = 1) : Sim cx A ((Amb.vr cx b v).and (Amb.vrs cx ms vs)) (call (.builtin "str.split") (v :: vs)) (bmV .split b ms) (Amb.vr cx) := by
  intro H ρ s R ⟨x, y⟩
  obtain ⟨c, rfl⟩ := List.length_eq_one_iff.mp hl
  obtain ⟨w, rfl, y1⟩ := VRs.one_inv y
  cases x with
  | str x t z =>
    show SimAt cx A (match txtOf c with
      | some y => if (y.length == 0) = false ∧ x.length + 2 ≤ lid then M.alloc (.list ((Txt.split x y).map .str)) H else .bad
      | none => .bad) _ _ ρ s
    cases e : txtOf c with
    | none => trivial
    | some y' =>
      cases txt_el e
      cases y1 with
      | str _ u zy =>
        dsimp only
        by_cases q : (y'.length == 0) = false ∧ x.length + 2 ≤ lid
        · rw [if_pos q]
          have q2 := q.2
          rw [sizeLine_lid] at q2
          refine simAt_listK (xs := (Txt.split x y').map .str) R ?_ fun Q E k => wp_split q.1 q2 fun l tk e => ?_
          · rw [List.length_map]
            exact Nat.le_trans (split_le x y') q2
          · refine k (s.heap.push { cls := .type "list", data := .seq (strValues l).toArray }) tk (strValues l) 0 (fun b o => ?_) ?_ fun ρ' st => ?_
            · exact fun hb => Heap.get?_push_of_some _ hb
            · exact Heap.get?_push_size _ rfl
            · rw [← e]
              exact vrs_strs l fun p hp => Nat.le_trans (part_short (e ▸ List.mem_map_of_mem hp)) z
        · rw [if_neg q]; trivial
  | @loc l p hp =>
    delta bmV; dsimp only
    cases H[l]? with
    | none => trivial
    | some o => cases o <;> trivial
  | _ => trivial
end
end Mine
-- part MBm
namespace Mine
open PySem
theorem attributeBase_of {o : Expr} (h : notSuper o = true) (n : Str) (env : Env) (t : Sem Value) : attributeBase o n env t = t := by
  have k : t = t := rfl
  cases o with
  | Call f args kws pos =>
    cases f with
    | Name id c =>
      cases args with
      | nil =>
        cases kws with
        | nil =>
          have : (id != ("super" : Str)) = true := h
          exact if_pos (by simp only [this, Bool.true_or])
        | cons _ _ => exact k
      | cons _ _ => exact k
    | _ => exact k
  | _ => exact k
section
variable {cx : Cx} {A : Around} {P : Amb} {env : Env} {H : Hp} {ρ : Rho} {s : Shared}
noncomputable def plainArgs (env : Env) : List Expr → Prop
  | [] => True
  | e :: es => starEach (e :: es) env = (false, eval e env) :: starEach es env ∧ plainArgs env es
theorem plainArgs_trees {env : Env} : ∀ {xs : List Expr} (pos : Pos), plainArgs env xs → backTo pos (starEach xs env) = xs.map fun e => (false, eval e env)
  | [], pos, _ => rfl
  | e :: es, pos, h => by
    rw [h.1]
    have := plainArgs_trees pos h.2
    unfold backTo at this ⊢
    rw [List.map_cons, this]
    simp
theorem plainArgs_few {env : Env} {xs : List Expr} {pos : Pos} (h : plainArgs env xs) (z : xs.length ≤ 20) :
    ((backTo pos (starEach xs env)).all (fun x => !x.1) && (backToKw pos (keywordEach [] env)).all (fun x => x.1.isSome) && decide (xs.length + ([] : List Keyword).length + (if ([] : List Keyword).isEmpty then 0 else 1) < 30)) = true := by
  rw [plainArgs_trees pos h]
  simp only [Bool.and_eq_true, List.all_eq_true, List.mem_map, forall_exists_index, and_imp, decide_eq_true_eq]
  refine ⟨⟨fun x e _ hx => by rw [← hx]; rfl, ?_⟩, ?_⟩
  · intro x hx; exact absurd (show x ∈ [] from hx) List.not_mem_nil
  · simp; omega
theorem simK_method {T id : String} {o : Expr} {name : Str} {apos pos : Pos} {args : List Expr} {m : M Val} {g : Val → M Val} (hs : notSuper o = true) (hp : plainArgs env args) (hz : args.length ≤ 20) (hline : (apos.endLine == pos.line) = true)
    (pa : PlainAttrs T) (slot : Slot T name id) (hty : typeOf (.builtin id) = pure (.type "method_descriptor"))
    (x : SimAt cx A (m H) (eval o env) (Amb.vr cx) ρ s)
    (y : ∀ b a H' ρ' s', m H = .ok b H' → Full ρ s.heap ρ' s'.heap → Rel cx H' ρ' s' → VR cx ρ' s'.heap b a →
      SimK cx (g b H') (fun Q E s₁ => s₁.TypeIs a T ∧ (∀ p, a = .ref p → ∃ ob, s₁.heap.get? p = some ob ∧ ob.dict = none) ∧ wpAny (model cx.prog cx.w) A (callWith pos (.builtin id) [a] (args.map fun e => (false, eval e env)) []) Q E s₁) (Amb.vr cx) ρ' s') :
    SimAt cx A (m.bnd g H) (eval (.Call (.Attribute o name apos) args [] pos) env) (Amb.vr cx) ρ s :=
  SimAt.bindK (K' := fun Q E s => wpAny (model cx.prog cx.w) A (eval (.Call (.Attribute o name apos) args [] pos) env) Q E s) x y
    (fun a Q E Q' E' s ⟨h1, h2, h3⟩ k1 k2 => ⟨h1, h2, wpAny_mono h3 k1 k2⟩)
    (fun Q E h => wpAny_Call_method (attributeBase_of hs _ _ _) (plainArgs_few hp hz) hline pa slot hty (by rw [plainArgs_trees pos hp]; exact h))
theorem SimK.andK {β α : Type} {r : Res β} {p : Prop} (hp : p) {K : (α → Shared → Prop) → (Value → Shared → Prop) → Shared → Prop} {V : β → α → Amb} (x : SimK cx r K V ρ s) : SimK cx r (fun Q E s' => p ∧ K Q E s') V ρ s := x.mono fun _ _ h => ⟨hp, h⟩
theorem list_head (R : Rel cx H ρ s) {l : Nat} {p : Addr × Addr} {xs : List Val} (hl : H[l]? = some (.list xs)) (hp : ρ[l]? = some p) : s.TypeIs (.ref p.1) "list" ∧ ∀ q, Value.ref p.1 = .ref q → ∃ ob, s.heap.get? q = some ob ∧ ob.dict = none := by
  refine hideG fun G kG => ?_
  obtain ⟨vs, n, _, g, _⟩ := R.listAt hl hp
  refine kG ?_
  exact ⟨⟨_, g, rfl⟩, fun q e => by cases e; exact ⟨_, g, rfl⟩⟩
theorem mapSeq_list (vs : List Value) (n : Nat) (f : Array Value → Array Value) : ∃ n', Obj.mapSeq f (listO vs n) = listO (f vs.toArray).toList n' := by
  unfold listO Obj.mapSeq
  exact ⟨_, rfl⟩
theorem simAt_seq {l : Nat} {p : Addr × Addr} {b : Val} {v : Value} {ys : List Val} {vs : List Value} {n : Nat} (R : Rel cx H ρ s) (hl : ρ[l]? = some p) (hpp : p.2 = p.1) (g : s.heap.get? p.1 = some (listO vs n)) (f : Array Value → Array Value)
    (r : VRs cx ρ s.heap ys (f vs.toArray).toList) (z : ys.length ≤ sizeLine) (hv : ∀ h, Full ρ s.heap ρ h → VR cx ρ h b v) :
    ∃ ρ', Full ρ s.heap ρ' (s.heap.update p.1 (Obj.mapSeq f)) ∧ Rel cx (H.set l (.list ys)) ρ' { s with heap := s.heap.update p.1 (Obj.mapSeq f) } ∧ (Amb.vr cx b v).P ρ' (s.heap.update p.1 (Obj.mapSeq f)) := by
  obtain ⟨n', e⟩ := mapSeq_list vs n f
  have g' : (s.heap.update p.1 (Obj.mapSeq f)).get? p.1 = some (listO (f vs.toArray).toList n') := by
    rw [Heap.get?_update_self _ g (by skip; rfl), e]
  have hs : Heap.SameBut p.1 s.heap (s.heap.update p.1 (Obj.mapSeq f)) := Heap.SameBut.update ..
  have own : Owned ρ p.1 := ⟨p, List.mem_of_getElem? hl, .inl rfl⟩
  have F := Full.own own g' hs
  obtain ⟨F', R'⟩ := R.set (tk := s.toks) (o := .list ys) hl (fun b ob eb n1 _ => by rw [hs.2 b n1]; exact eb) (SameBut.live hs g') (by
    obtain ⟨p1, p2⟩ := p
    dsimp only at hpp
    refine Eq.symm hpp ▸ ?_
    exact .list g' (r.step F.step) z)
  exact ⟨ρ, F', R', hv _ F'⟩
theorem size_le_of {vs : List Value} {xs : List Val} (r : VRs cx ρ s.heap xs vs) (z : xs.length ≤ sizeLine) : vs.toArray.size ≤ sizeLine := by simp only [List.size_toArray]; rw [← r.length]; exact z
theorem simK_args {Φ : Funs} {Γ : Env'} {es : MEs} {xs : List Expr} {f : Value} {γ δ : Type} {g : List Val → M δ} {W : δ → γ → Amb} {K : List Value → (γ → Shared → Prop) → (Value → Shared → Prop) → Shared → Prop}
    (hn : xs = [] → es = .nil) (R : Rel cx H ρ s) (x : SimAt cx A (evalEs cx.T Φ es Γ H) (spliced (xs.map fun e => (false, eval e env))) (Amb.vrs cx) ρ s)
    (y : ∀ ms vs H' ρ' s', evalEs cx.T Φ es Γ H = .ok ms H' → Full ρ s.heap ρ' s'.heap → Rel cx H' ρ' s' → VRs cx ρ' s'.heap ms vs → SimK cx (g ms H') (K vs) W ρ' s') (mk : ∀ vs, MonoK (K vs)) :
    SimK cx ((evalEs cx.T Φ es Γ).bnd g H) (fun Q E s => wpAny (model cx.prog cx.w) A (evalArgs f true (xs.map fun e => (false, eval e env)) []) (fun a s₁ => a.kw = [] ∧ K a.pos Q E s₁) E s) W ρ s := by
  cases xs with
  | nil =>
    obtain rfl := hn rfl
    have e : evalEs cx.T Φ .nil Γ H = .ok [] H := rfl
    refine (y [] [] H ρ s e (Full.refl _ _) R .nil).mono fun Q E h => ?_
    exact evalArgs_none ⟨rfl, h⟩
  | cons e0 es0 =>
    refine SimAt.bindK (K := K) x y mk fun Q E h => ?_
    exact Calls.evalArgs_plain (wpAny_mono h (fun vs s' h' => ⟨rfl, h'⟩) fun _ _ q => q)
theorem any_false (args : List Expr) : (args.map fun e => (false, eval e env)).any (·.1) = false := by
  induction args with
  | nil => rfl
  | cons e es ih => rw [List.map_cons, List.any_cons, ih]; rfl
theorem monoK_wp {α : Type} (t : Sem α) : MonoK fun Q E s => wpAny (model cx.prog cx.w) A t Q E s := fun _ _ _ _ _ h k1 k2 => wpAny_mono h k1 k2
theorem simK_callB {Φ : Funs} {Γ : Env'} {es : MEs} {xs : List Expr} {pos : Pos} {id : String} {first : List Value} {g : List Val → M Val} (hn : xs = [] → es = .nil) (R : Rel cx H ρ s)
    (x : SimAt cx A (evalEs cx.T Φ es Γ H) (spliced (xs.map fun e => (false, eval e env))) (Amb.vrs cx) ρ s)
    (y : ∀ ms vs H' ρ' s', evalEs cx.T Φ es Γ H = .ok ms H' → Full ρ s.heap ρ' s'.heap → Rel cx H' ρ' s' → VRs cx ρ' s'.heap ms vs → SimAt cx A (g ms H') (call (.builtin id) (first ++ vs)) (Amb.vr cx) ρ' s') :
    SimAt cx A ((evalEs cx.T Φ es Γ).bnd g H) (callWith pos (.builtin id) first (xs.map fun e => (false, eval e env)) []) (Amb.vr cx) ρ s :=
  (simK_args (f := .builtin id) (K := fun vs Q E s => wpAny (model cx.prog cx.w) A (call (.builtin id) (first ++ vs)) Q E s) hn R x y (fun _ => monoK_wp _)).mono fun Q E h =>
    Calls.callWith_builtin (any_false _) (wpAny_mono h (fun a s₁ h₁ => by rw [h₁.1]; exact h₁.2) fun _ _ q => q)
noncomputable def bmId : BM → String
  | .append => "list.append"
  | .join => "str.join"
  | .split => "str.split"
  | .rstrip => "str.rstrip"
noncomputable def bmAt (m : BM) : String × String := (bmHost m, bmId m)
theorem bm_plain (m : BM) : PlainAttrs (bmAt m).1 := by
  cases m <;> first | exact F.plainAttrs_list | exact F.plainAttrs_dict | exact F.plainAttrs_str
theorem bm_slot (m : BM) : Slot (bmAt m).1 (bmName m).1 (bmAt m).2 := by
  cases m
  · exact F.slot_list_append
  · exact F.slot_str_join
  · exact F.slot_str_split
  · exact F.slot_str_rstrip
set_option maxRecDepth 100000 in
theorem bm_desc (m : BM) : typeOf (.builtin (bmAt m).2) = pure (.type "method_descriptor") := by
  cases m <;> kernel_rfl
theorem bm_fits {m : BM} {b : Val} {v : Value} (R : Rel cx H ρ s) (x : VR cx ρ s.heap b v) (h : bmFits m b H = some ()) : s.TypeIs v (bmAt m).1 ∧ ∀ q, v = .ref q → ∃ ob, s.heap.get? q = some ob ∧ ob.dict = none := by
  have h := (ite_some h).1
  show s.TypeIs v (bmHost m) ∧ _
  generalize bmHost m = T at h
  cases x with
  | str y t z => cases h; exact ⟨typeIs_str _ _ _, fun q e => nomatch e⟩
  | @loc l p hp =>
    refine host_el (C := fun T => s.TypeIs (.ref p.1) T ∧ ∀ q, Value.ref p.1 = .ref q → ∃ ob, s.heap.get? q = some ob ∧ ob.dict = none) h (fun xs hl => list_head R hl hp) fun es hl => ?_
    refine hideG fun G kG => ?_
    obtain ⟨xs, _, D, _⟩ := R.dictAt hl hp
    obtain ⟨o, _, _, g, ex, _⟩ := D
    refine kG ?_
    exact ⟨⟨_, g, ex.1⟩, fun q e => by cases e; exact ⟨_, g, ex.2.1⟩⟩
  | _ => exact no_some h
theorem sim_bm {Φ : Funs} {Γ : Env'} {a : ME} {m : BM} {es : MEs} {o : Expr} {xs : List Expr} {apos pos : Pos} (hs : notSuper o = true) (hp : plainArgs env xs) (hz : xs.length ≤ 20) (hn : xs = [] → es = .nil) (hline : (apos.endLine == pos.line) = true)
    (x : Sim cx A P (eval o env) (evalE cx.T Φ a Γ) (Amb.vr cx)) (y : Sim cx A P (spliced (xs.map fun e => (false, eval e env))) (evalEs cx.T Φ es Γ) (Amb.vrs cx))
    (k : ∀ b v ms vs, ms.length = xs.length → Sim cx A ((Amb.vr cx b v).and (Amb.vrs cx ms vs)) (call (.builtin (bmAt m).2) (v :: vs)) (bmV m b ms) (Amb.vr cx)) (hlen : ∀ H ms H', evalEs cx.T Φ es Γ H = .ok ms H' → ms.length = xs.length) :
    Sim cx A P (eval (.Call (.Attribute o (bmName m).1 apos) xs [] pos) env) (evalE cx.T Φ (.bm a m es) Γ) (Amb.vr cx) := by
  intro H ρ s R p
  refine simK_method (T := (bmAt m).1) (id := (bmAt m).2) hs hp hz hline (bm_plain m) (bm_slot m) (bm_desc m) (x H ρ s R p) fun b v H1 ρ1 s1 _ F1 R1 vr => ?_
  refine SimK.lookK fun _ fit => ?_
  obtain ⟨t1, t2⟩ := bm_fits R1 vr fit
  refine SimK.mono (K := fun Q E s => wpAny (model cx.prog cx.w) A (callWith pos (.builtin (bmAt m).2) [v] (xs.map fun e => (false, eval e env)) []) Q E s) ?_ fun Q E h => ⟨t1, t2, h⟩
  refine simK_callB hn R1 (y H1 ρ1 s1 R1 (P.st _ _ _ _ p F1)) fun ms vs H2 ρ2 s2 e2 F2 R2 vrs => ?_
  exact k b v ms vs (hlen _ _ _ e2) H2 ρ2 s2 R2 ⟨vr.step F2.step, vrs⟩
end
end Mine
-- part MLm
namespace Mine
open PySem
section
variable {cx : Cx} {A : Around} {H : Hp} {ρ : Rho} {s : Shared}
theorem VRs.single {h : Heap} {ms : List Val} {vs : List Value} (y : VRs cx ρ h ms vs) (hl : ms.length = 1) : ∃ m u, ms = [m] ∧ vs = [u] ∧ VR cx ρ h m u := by
  cases y with
  | nil => cases hl
  | cons y0 y =>
    cases y with
    | nil => exact ⟨_, _, rfl, rfl, y0⟩
    | cons _ _ => cases hl
set_option tactic.hygienic true in
theorem bm_append (b : Val) (v : Value) (ms : List Val) (vs : List Value) (hl : ms.length = 1) : Sim cx A ((Amb.vr cx b v).and (Amb.vrs cx ms vs)) (call (.builtin "list.append") (v :: vs)) (bmV .append b ms) (Amb.vr cx) := by
  intro H ρ s R ⟨x, y⟩
  obtain ⟨m, u, rfl, rfl, y0⟩ := VRs.single y hl
  cases x with
  | @loc l p hp =>
    show SimAt cx A (match H[l]? with
      | some (.list xs) => if xs.length < lid then Res.ok Val.none (H.set l (.list (xs ++ [m]))) else .bad
      | some (.dict es) => .bad
      | _ => .bad) _ _ ρ s
    split
    · rename_i xs e
      refine hideG fun G kG => ?_
      obtain ⟨ws, n, hpp, g, r, z⟩ := R.listAt e hp
      refine kG ?_
      by_cases q : xs.length < lid
      · rw [if_pos q]
        rw [sizeLine_lid] at q
        refine call_meets F.slot_list_append ⟨_, g, rfl⟩ F.entry_list_append (F.args_list_append_2 _ _) (list_append p.1 ws.toArray n u (size_le_of r z)) ⟨g, ?_⟩
        exact simAt_seq R hp hpp g (fun x => x.push u) (by simpa using r.append (.one y0)) (by rw [List.length_append]; exact q) fun _ _ => .none
      · rw [if_neg q]; trivial
    · trivial
    · trivial
  | _ => trivial
theorem bm_rstrip (b : Val) (v : Value) (ms : List Val) (vs : List Value) (hl : ms.length = 0) : Sim cx A ((Amb.vr cx b v).and (Amb.vrs cx ms vs)) (call (.builtin "str.rstrip") (v :: vs)) (bmV .rstrip b ms) (Amb.vr cx) := by
  intro H ρ s R ⟨x, y⟩
  match ms, hl, y with
  | [], _, .nil =>
    cases x with
    | str y t z =>
      show SimAt cx A (if (Txt.rstrip y).length ≤ lid then Res.ok (Val.str (Txt.rstrip y)) H else .bad) _ _ ρ s
      by_cases q : (Txt.rstrip y).length ≤ lid
      · rw [if_pos q]
        rw [sizeLine_lid] at q
        exact simAt_pure R fun Q E k => SC.rstrip (fun t' tk => k _ _ (.str _ _ q)) z
      · rw [if_neg q]; trivial
    | _ => simp only [bmV]; (try split) <;> trivial
end
end Mine
-- part MDict
namespace Mine
open PySem
section
variable {prog : Program} {w : World} {K : Type} [DecidableEq K] {knd : HeapKind prog w K} {A : Around} {E : Value → Shared → Prop} {s : Shared}
end
section
variable {prog : Program} {w : World} {K : Type} [DecidableEq K] {knd : HeapKind prog w K}
theorem stored_keys {h : Heap} {xs : List (K × Addr × Value)} {k : K} {a : Addr} {v : Value} (ks : ∀ x ∈ xs, knd.is h x.1 x.2.1) (hk : knd.is h k a) : ∀ x ∈ storedH xs k a v, knd.is h x.1 x.2.1 := by
  intro x hx
  unfold storedH at hx
  by_cases q : (atKey xs k).isSome = true
  · rw [if_pos q] at hx
    obtain ⟨y, hy, hr0⟩ := List.mem_map.mp hx; refine hr0 ▸ ?_
    unfold putAt
    by_cases e : y.1 = k
    · rw [if_pos e]; exact ks y hy
    · rw [if_neg e]; exact ks y hy
  · rw [if_neg q] at hx
    rcases List.mem_append.mp hx with hx | hx
    · exact ks x hx
    · rw [List.mem_singleton.mp hx]; exact hk
end
section
variable {cx : Cx} {A : Around} {P : Amb} {H : Hp} {ρ : Rho} {s : Shared} {h : Heap}
theorem DRs.length {es : List (Key × Val)} {xs : List (List Int × Addr × Value)} (r : DRs cx ρ h es xs) : xs.length = es.length := by
  induction r with
  | nil => rfl
  | cons _ _ _ ih => exact congrArg (· + 1) ih
theorem key_ne {k k' : Key} (q : ¬ k' = k) : ¬ ([k'.1, k'.2] = [k.1, k.2]) := fun e => q (by
  simp only [List.cons.injEq, and_true] at e
  exact Prod.ext e.1 e.2)
theorem DRs.put {es : List (Key × Val)} {xs : List (List Int × Addr × Value)} {k : Key} {a : Addr} {m : Val} {v : Value} (r : DRs cx ρ h es xs) (hn : (xs.map (·.1)).Nodup) (x : VR cx ρ h m v) (no : ¬ Owned ρ a) : DRs cx ρ h (dput es k m) (storedH xs [k.1, k.2] a v) := by
  induction r with
  | nil => exact .cons x no .nil
  | @cons k' v' b y es xs a' n r ih =>
    rw [List.map_cons, List.nodup_cons] at hn
    by_cases q : k' = k
    · refine q ▸ ?_
      have e1 : storedH (([k'.1, k'.2], b, y) :: xs) [k'.1, k'.2] a v = ([k'.1, k'.2], b, v) :: xs := by
        unfold storedH
        rw [if_pos (by simp [PySem.atKey]), List.map_cons]
        congr 1
        · simp [putAt]
        · refine (List.map_congr_left fun z hz => ?_).trans (List.map_id _)
          unfold putAt
          rw [if_neg fun e => hn.1 (List.mem_map.mpr ⟨z, hz, e⟩)]; rfl
      rw [e1]
      show DRs cx ρ h (if k' = k' then _ else _) _
      rw [if_pos rfl]
      exact .cons x n r
    · have q' := key_ne q
      have e2 : PySem.atKey (([k'.1, k'.2], b, y) :: xs) [k.1, k.2] = PySem.atKey xs [k.1, k.2] := by
        unfold PySem.atKey
        rw [List.find?_cons]
        simp only [decide_eq_false q']
      have e1 : storedH (([k'.1, k'.2], b, y) :: xs) [k.1, k.2] a v = ([k'.1, k'.2], b, y) :: storedH xs [k.1, k.2] a v := by
        unfold storedH
        rw [e2]
        split
        · rw [List.map_cons]; congr 1
          unfold putAt; rw [if_neg q']
        · rfl
      rw [e1]
      show DRs cx ρ h (if k' = k then _ else _) _
      rw [if_neg q]
      exact .cons a' n (ih hn.2)
theorem DRs.sub {es : List (Key × Val)} {xs : List (List Int × Addr × Value)} {k : Key} {m : Val} (r : DRs cx ρ s.heap es xs) (h : dget es k = some m) : ∃ p, PySem.atKey xs [k.1, k.2] = some p ∧ VR cx ρ s.heap m p.2 := by
  have a := r.atKey k
  rw [h] at a
  cases e : PySem.atKey xs [k.1, k.2] with
  | none => rw [e] at a; exact a.elim
  | some p => rw [e] at a; exact ⟨p, rfl, a⟩
theorem dput_length (es : List (Key × Val)) (k : Key) (v : Val) : (dput es k v).length ≤ es.length + 1 := by
  induction es with
  | nil => exact Nat.le_refl _
  | cons e es ih =>
    show (if e.1 = k then _ else _ : List (Key × Val)).length ≤ _
    by_cases q : e.1 = k
    · rw [if_pos q]; exact Nat.le_succ _
    · rw [if_neg q]; exact Nat.succ_le_succ ih
theorem dict_set {l : Nat} {p : Addr × Addr} {es : List (Key × Val)} {xs : List (List Int × Addr × Value)} {h' : Heap} {tk : Nat} (R : Rel cx H ρ s) (hl : ρ[l]? = some p) (hpp : p.2 = p.1) (hm : h'.DictOfH (cellKind cx) p.1 xs) (hs : Heap.SameBut p.1 s.heap h')
    (hk : ∀ x ∈ xs, (cellKind cx).is s.heap x.1 x.2.1) (r : DRs cx ρ s.heap es xs) (z : es.length ≤ sizeLine) : Full ρ s.heap ρ h' ∧ Rel cx (H.set l (.dict es)) ρ { s with heap := h', toks := tk } := by
  have hm' := hm
  refine hideG fun G kG => ?_
  obtain ⟨o, _, _, e', _⟩ := hm
  refine kG ?_
  have F := Full.own ⟨p, List.mem_of_getElem? hl, .inl rfl⟩ e' hs
  refine R.set hl (fun b ob eb n1 _ => by rw [hs.2 b n1]; exact eb) (SameBut.live hs e') ?_
  obtain ⟨p1, p2⟩ := p
  dsimp only at hpp
  refine Eq.symm hpp ▸ ?_
  exact .dict hm' (r.step F.step hk) z
theorem sim_dict {env : Env} {Φ : Funs} {Γ : Env'} {pos : Pos} : Sim cx A P (eval (.Dict [] [] pos) env) (evalE cx.T Φ .dict Γ) (Amb.vr cx) := by
  intro H ρ s R p
  refine wpAny_Dict_empty ?_
  have kp : ∀ b o, s.heap.get? b = some o → (s.heap.push { cls := .type "dict", data := .dict #[] }).get? b = some o := fun b o e => Heap.get?_push_of_some _ e
  obtain ⟨F, R'⟩ := R.alloc (tk := s.toks) (o := .dict []) (p := (s.heap.objs.size, s.heap.objs.size)) kp ⟨fresh_none _, fresh_none _⟩
    (.dict (Heap.DictOfH.new _) .nil (Nat.zero_le _))
  refine ⟨_, F, R', ?_⟩
  rw [R.len]
  exact VR.loc (p := (s.heap.objs.size, s.heap.objs.size)) (by rw [List.getElem?_append_right (Nat.le_refl _)]; simp)
end
end Mine
-- part MInv
namespace Mine
open PySem
section
variable {N : Names} {sc : Scope} {ns : List (Option Str)} {a b c : ME} {e : Expr} {es : MEs} {op op1 op2 : COp}
theorem inv_none (h : ck N sc ns .none e = true) : ∃ k pos, e = .Constant .none k pos := by
  obtain ⟨t, h⟩ := seen_of h
  exact ⟨_, _, t.2.trans (congrArg (fun c => Expr.Constant c t.1.2.1 t.1.2.2) (said h))⟩
theorem inv_bool {v : Bool} (h : ck N sc ns (.bool v) e = true) : ∃ k pos, e = .Constant (.bool v) k pos := by
  obtain ⟨t, h⟩ := seen_of h
  obtain ⟨u, h⟩ := seen_of h
  exact ⟨_, _, t.2.trans (congrArg (fun c => Expr.Constant c t.1.2.1 t.1.2.2) (u.2.trans (congrArg Const.bool (eq_of_beq h).symm)))⟩
theorem inv_int {v : Int} (h : ck N sc ns (.int v) e = true) : ∃ k pos, e = .Constant (.int v) k pos := by
  obtain ⟨t, h⟩ := seen_of h
  obtain ⟨u, h⟩ := seen_of h
  exact ⟨_, _, t.2.trans (congrArg (fun c => Expr.Constant c t.1.2.1 t.1.2.2) (u.2.trans (congrArg Const.int (of_decide_eq_true h).symm)))⟩
theorem inv_str {v : Str} (h : ck N sc ns (.str v) e = true) : ∃ k pos, e = .Constant (.str v) k pos ∧ v.length ≤ 1000 := by
  obtain ⟨t, h⟩ := seen_of h
  obtain ⟨u, h⟩ := seen_of h
  exact ⟨_, _, t.2.trans (congrArg (fun c => Expr.Constant c t.1.2.1 t.1.2.2) (u.2.trans (congrArg Const.str (of_decide_eq_true (an1 h)).symm))), of_decide_eq_true (an2 h)⟩
theorem inv_glob {k : Nat} (h : ck N sc ns (.glob k) e = true) : ∃ x pos, e = .Name x pos ∧ isGlob sc x = true ∧ hasNo N.globs x k = true := by
  obtain ⟨t, h⟩ := seen_of h
  exact ⟨_, _, t.2, an1 h, an2 h⟩
theorem inv_var {k : Nat} (h : ck N sc ns (.var k) e = true) : ∃ x pos, e = .Name x pos ∧ isVar sc ns k x = true := by
  obtain ⟨t, h⟩ := seen_of h
  exact ⟨_, _, t.2, h⟩
theorem inv_bin {op : BOp} (h : ck N sc ns (.bin op a b) e = true) : ∃ l o r pos, e = .BinOp l o r pos ∧ opOk op o = true ∧ ck N sc ns a l = true ∧ ck N sc ns b r = true := by
  obtain ⟨t, h⟩ := seen_of h
  exact ⟨_, _, _, _, t.2, an1 (an1 h), an2 (an1 h), an2 h⟩
theorem inv_neg (h : ck N sc ns (.neg a) e = true) : ∃ x pos, e = .UnaryOp .USub x pos ∧ ck N sc ns a x = true := by
  obtain ⟨t, h⟩ := seen_of h
  exact ⟨_, _, t.2.trans (congrArg (fun o => Expr.UnaryOp o t.1.2.1 t.1.2.2) (said (an1 h))), an2 h⟩
theorem inv_not (h : ck N sc ns (.not a) e = true) : ∃ x pos, e = .UnaryOp .Not x pos ∧ ck N sc ns a x = true := by
  obtain ⟨t, h⟩ := seen_of h
  exact ⟨_, _, t.2.trans (congrArg (fun o => Expr.UnaryOp o t.1.2.1 t.1.2.2) (said (an1 h))), an2 h⟩
theorem inv_and (h : ck N sc ns (.and a b) e = true) : ∃ x y rest pos, e = .BoolOp .And (x :: y :: rest) pos ∧ ck N sc ns a x = true ∧ ((rest = [] ∧ ck N sc ns b y = true) ∨ ck N sc ns b (.BoolOp .And (y :: rest) pos) = true) := by
  refine hideG fun G kG => ?_
  obtain ⟨t, h⟩ := seen_of h
  obtain ⟨⟨⟨x, y, rest⟩, z2⟩, h2⟩ := seen_of (an2 h)
  refine kG ?_
  refine ⟨x, y, rest, t.1.2.2, t.2.trans ((congrArg (fun o => Expr.BoolOp o t.1.2.1 t.1.2.2) (said (an1 h))).trans (congrArg (fun o => Expr.BoolOp .And o t.1.2.2) z2)), an1 h2, ?_⟩
  cases rest with
  | nil => exact .inl ⟨rfl, an2 h2⟩
  | cons _ _ => exact .inr (an2 h2)
theorem inv_or (h : ck N sc ns (.or a b) e = true) : ∃ x y rest pos, e = .BoolOp .Or (x :: y :: rest) pos ∧ ck N sc ns a x = true ∧ ((rest = [] ∧ ck N sc ns b y = true) ∨ ck N sc ns b (.BoolOp .Or (y :: rest) pos) = true) := by
  obtain ⟨t, h⟩ := seen_of h
  obtain ⟨⟨⟨x, y, rest⟩, z2⟩, h2⟩ := seen_of (an2 h)
  refine ⟨x, y, rest, t.1.2.2, t.2.trans ((congrArg (fun o => Expr.BoolOp o t.1.2.1 t.1.2.2) (said (an1 h))).trans (congrArg (fun o => Expr.BoolOp .Or o t.1.2.2) z2)), an1 h2, ?_⟩
  cases rest with
  | nil => exact .inl ⟨rfl, an2 h2⟩
  | cons _ _ => exact .inr (an2 h2)
theorem inv_cmp (h : ck N sc ns (.cmp op a b) e = true) : ∃ l r pos, e = .Compare l [cmOp op] [r] pos ∧ ck N sc ns a l = true ∧ ck N sc ns b r = true ∧ notSet r = true := by
  obtain ⟨t, h⟩ := seen_of h
  obtain ⟨u, h2⟩ := seen_of (an2 h)
  exact ⟨_, _, _, t.2.trans ((congrArg (fun o => Expr.Compare t.1.1 o t.1.2.2.1 t.1.2.2.2) (of_decide_eq_true (an1 h))).trans (congrArg (fun o => Expr.Compare t.1.1 _ o t.1.2.2.2) u.2)), an1 (an1 h2), an2 (an1 h2), an2 h2⟩
theorem inv_cmp2 (h : ck N sc ns (.cmp2 op1 op2 a b c) e = true) : ∃ l m r pos, e = .Compare l [cmOp op1, cmOp op2] [m, r] pos ∧ ck N sc ns a l = true ∧ ck N sc ns b m = true ∧ ck N sc ns c r = true ∧ notSet r = true := by
  obtain ⟨t, h⟩ := seen_of h
  obtain ⟨u, h2⟩ := seen_of (an2 h)
  exact ⟨_, _, _, _, t.2.trans ((congrArg (fun o => Expr.Compare t.1.1 o t.1.2.2.1 t.1.2.2.2) (of_decide_eq_true (an1 h))).trans (congrArg (fun o => Expr.Compare t.1.1 _ o t.1.2.2.2) u.2)), an1 (an1 (an1 h2)), an2 (an1 (an1 h2)), an2 (an1 h2), an2 h2⟩
theorem inv_sub (h : ck N sc ns (.sub a b) e = true) : ∃ v s pos, e = .Subscript v s pos ∧ ck N sc ns a v = true ∧ ck N sc ns b s = true := by
  obtain ⟨t, h⟩ := seen_of h
  exact ⟨_, _, _, t.2, an1 h, an2 h⟩
theorem inv_slice {lo hi : MEo} (h : ck N sc ns (.slice a lo hi) e = true) : ∃ v l u p pos, e = .Subscript v (.Slice l u none p) pos ∧ ck N sc ns a v = true ∧ ckO N sc ns lo l = true ∧ ckO N sc ns hi u = true := by
  obtain ⟨t, h⟩ := seen_of h
  obtain ⟨u, h⟩ := seen_of h
  exact ⟨_, _, _, _, _, t.2.trans (congrArg (fun o => Expr.Subscript t.1.1 o t.1.2.2) (u.2.trans (congrArg (fun o => Expr.Slice u.1.1 u.1.2.1 o u.1.2.2.2) (said (an2 h))))), an1 (an1 (an1 h)), an2 (an1 (an1 h)), an2 (an1 h)⟩
theorem inv_tup (h : ck N sc ns (.tup es) e = true) : ∃ xs k pos, e = .Tuple xs k pos ∧ ckEs N sc ns es xs = true ∧ xs.length ≤ 1000 := by
  obtain ⟨t, h⟩ := seen_of h
  exact ⟨_, _, _, t.2, an1 h, of_decide_eq_true (an2 h)⟩
theorem inv_list (h : ck N sc ns (.list es) e = true) : ∃ xs pos, e = .List xs pos ∧ ckEs N sc ns es xs = true ∧ xs.length ≤ 1000 := by
  obtain ⟨t, h⟩ := seen_of h
  exact ⟨_, _, t.2, an1 h, of_decide_eq_true (an2 h)⟩
theorem inv_dict (h : ck N sc ns .dict e = true) : ∃ pos, e = .Dict [] [] pos := by
  obtain ⟨t, h⟩ := seen_of h
  exact ⟨t.1.2.2, t.2.trans (by rw [List.isEmpty_iff.mp (an1 h), List.isEmpty_iff.mp (an2 h)])⟩
theorem inv_attr {n : Nat} (h : ck N sc ns (.attr a n) e = true) : ∃ v y pos, e = .Attribute v y pos ∧ ck N sc ns a v = true ∧ hasNo N.attrs y n = true ∧ notSuper v = true := by
  obtain ⟨t, h⟩ := seen_of h
  exact ⟨_, _, _, t.2, an1 (an1 h), an2 (an1 h), an2 h⟩
theorem inv_call {f : Nat} (h : ck N sc ns (.call f es) e = true) : ∃ x np xs pos, e = .Call (.Name x np) xs [] pos ∧ isGlob sc x = true ∧ hasNo N.funs x f = true ∧ ckEs N sc ns es xs = true ∧ xs.length ≤ 20 := by
  obtain ⟨t, h⟩ := seen_of h
  exact ⟨_, _, _, _, t.2, an1 (an1 (an1 h)), an2 (an1 (an1 h)), an2 (an1 h), of_decide_eq_true (an2 h)⟩
theorem inv_new {f : Nat} (h : ck N sc ns (.new f es) e = true) : ∃ x np xs pos, e = .Call (.Name x np) xs [] pos ∧ isGlob sc x = true ∧ hasNo N.clss x f = true ∧ ckEs N sc ns es xs = true ∧ xs.length ≤ 20 := by
  obtain ⟨t, h⟩ := seen_of h
  exact ⟨_, _, _, _, t.2, an1 (an1 (an1 h)), an2 (an1 (an1 h)), an2 (an1 h), of_decide_eq_true (an2 h)⟩
theorem inv_umeth {m : Nat} (h : ck N sc ns (.umeth a m es) e = true) : ∃ o y apos xs pos, e = .Call (.Attribute o y apos) xs [] pos ∧ ck N sc ns a o = true ∧ hasNo N.meths y m = true ∧ ckEs N sc ns es xs = true ∧ xs.length ≤ 20 ∧ notSuper o = true ∧ (apos.endLine == pos.line) = true := by
  obtain ⟨t, h⟩ := seen_of h
  exact ⟨_, _, _, _, _, t.2.1, an1 (an1 (an1 (an1 h))), an2 (an1 (an1 (an1 h))), an2 (an1 (an1 h)), of_decide_eq_true (an2 (an1 h)), an2 h, t.2.2⟩
theorem inv_bf {f : BF} (h : ck N sc ns (.bf f es) e = true) : ∃ x np xs pos, e = .Call (.Name x np) xs [] pos ∧ isGlob sc x = true ∧ (bfName f).1 = x ∧ (bfName f).2 = xs.length ∧ ckEs N sc ns es xs = true := by
  obtain ⟨t, h⟩ := seen_of h
  exact ⟨_, _, _, _, t.2, an1 (an1 (an1 h)), of_decide_eq_true (an2 (an1 (an1 h))), of_decide_eq_true (an2 (an1 h)), an2 h⟩
theorem inv_bm {m : BM} (h : ck N sc ns (.bm a m es) e = true) : ∃ o y apos xs pos, e = .Call (.Attribute o y apos) xs [] pos ∧ ck N sc ns a o = true ∧ (bmName m).1 = y ∧ (bmName m).2 = xs.length ∧ ckEs N sc ns es xs = true ∧ notSuper o = true ∧ (apos.endLine == pos.line) = true := by
  obtain ⟨t, h⟩ := seen_of h
  exact ⟨_, _, _, _, _, t.2.1, an1 (an1 (an1 (an1 h))), of_decide_eq_true (an2 (an1 (an1 (an1 h)))), of_decide_eq_true (an2 (an1 (an1 h))), an2 (an1 h), an2 h, t.2.2⟩
theorem inv_isinst {t : Ty} (h : ck N sc ns (.isinst a t) e = true) : ∃ f np x y yp pos, e = .Call (.Name f np) [x, .Name y yp] [] pos ∧ isGlob sc f = true ∧ f = ("isinstance" : Str) ∧ isGlob sc y = true ∧ ck N sc ns a x = true ∧ tyOk N y t = true := by
  refine hideG fun G kG => ?_
  obtain ⟨p, h⟩ := seen_of h
  obtain ⟨u, h⟩ := seen_of h
  obtain ⟨w, h⟩ := seen_of h
  refine kG ?_
  exact ⟨_, _, _, _, _, _, p.2.trans (congrArg (fun xs => Expr.Call (.Name p.1.1 p.1.2.1) xs [] p.1.2.2.2) (u.2.trans (congrArg (fun y => [u.1.1, y]) w.2))), an1 (an1 (an1 (an1 h))), of_decide_eq_true (an2 (an1 (an1 (an1 h)))), an2 (an1 (an1 h)), an2 (an1 h), an2 h⟩
theorem inv_comp {elt it : ME} {cond : MEo} (h : ck N sc ns (.comp elt it cond) e = true) : ∃ el x px i ifs csc pos, e = .ListComp el [⟨.Name x px, i, ifs, 0⟩] csc pos ∧ ck N sc ns it i = true ∧ notSet i = true ∧ compOk sc csc x = true ∧
    ck N csc (inner csc ns ++ [some x]) elt el = true ∧ ckC N csc (inner csc ns ++ [some x]) cond ifs = true := by
  obtain ⟨t, h⟩ := seen_of h
  obtain ⟨u, h⟩ := seen_of h
  exact ⟨_, _, _, _, _, _, _, t.2.trans (congrArg (fun g => Expr.ListComp t.1.1 g t.1.2.2.1 t.1.2.2.2) u.2), an1 (an1 (an1 (an1 h))), an2 (an1 (an1 (an1 h))), an2 (an1 (an1 h)), an2 (an1 h), an2 h⟩
noncomputable def formOk (comp : Bool) : Expr → Bool
  | .Constant .. => true
  | .Name .. => true
  | .BinOp .. => true
  | .UnaryOp .. => true
  | .BoolOp .. => true
  | .Compare .. => true
  | .Subscript .. => true
  | .Tuple .. => true
  | .List .. => true
  | .Dict .. => true
  | .Attribute .. => true
  | .Call .. => true
  | .ListComp .. => comp
  | _ => false
noncomputable def isComp : ME → Bool
  | .comp .. => true
  | _ => false
theorem form_of {e e' : Expr} {c : Bool} (h : e = e') (k : formOk c e' = true) : formOk c e = true := h ▸ k
theorem ck_head {m : ME} (h : ck N sc ns m e = true) : formOk (isComp m) e = true := by
  cases m with
  | none => obtain ⟨t, _⟩ := seen_of h; exact form_of t.2 rfl
  | bool v => obtain ⟨t, _⟩ := seen_of h; exact form_of t.2 rfl
  | int v => obtain ⟨t, _⟩ := seen_of h; exact form_of t.2 rfl
  | str v => obtain ⟨t, _⟩ := seen_of h; exact form_of t.2 rfl
  | glob k => obtain ⟨t, _⟩ := seen_of h; exact form_of t.2 rfl
  | var k => obtain ⟨t, _⟩ := seen_of h; exact form_of t.2 rfl
  | bin op a b => obtain ⟨t, _⟩ := seen_of h; exact form_of t.2 rfl
  | neg a => obtain ⟨t, _⟩ := seen_of h; exact form_of t.2 rfl
  | not a => obtain ⟨t, _⟩ := seen_of h; exact form_of t.2 rfl
  | and a b => obtain ⟨t, _⟩ := seen_of h; exact form_of t.2 rfl
  | or a b => obtain ⟨t, _⟩ := seen_of h; exact form_of t.2 rfl
  | cmp op a b => obtain ⟨t, _⟩ := seen_of h; exact form_of t.2 rfl
  | cmp2 op1 op2 a b c => obtain ⟨t, _⟩ := seen_of h; exact form_of t.2 rfl
  | sub a i => obtain ⟨t, _⟩ := seen_of h; exact form_of t.2 rfl
  | slice a lo hi => obtain ⟨t, _⟩ := seen_of h; exact form_of t.2 rfl
  | tup es => obtain ⟨t, _⟩ := seen_of h; exact form_of t.2 rfl
  | list es => obtain ⟨t, _⟩ := seen_of h; exact form_of t.2 rfl
  | dict => obtain ⟨t, _⟩ := seen_of h; exact form_of t.2 rfl
  | attr a n => obtain ⟨t, _⟩ := seen_of h; exact form_of t.2 rfl
  | call f es => obtain ⟨t, _⟩ := seen_of h; exact form_of t.2 rfl
  | new f es => obtain ⟨t, _⟩ := seen_of h; exact form_of t.2 rfl
  | umeth a m es => obtain ⟨t, _⟩ := seen_of h; exact form_of t.2.1 rfl
  | bf f es => obtain ⟨t, _⟩ := seen_of h; exact form_of t.2 rfl
  | bm a m es => obtain ⟨t, _⟩ := seen_of h; exact form_of t.2.1 rfl
  | isinst a t => obtain ⟨t, _⟩ := seen_of h; exact form_of t.2 rfl
  | comp elt it cond => obtain ⟨t, _⟩ := seen_of h; exact form_of t.2 rfl
end
end Mine
-- part MMain
namespace Mine
open PySem
noncomputable def notStar : Expr → Bool
  | .Starred .. => false
  | _ => true
theorem starEach_plain {e : Expr} {es : List Expr} {env : Env} (h : notStar e = true) : starEach (e :: es) env = (false, eval e env) :: starEach es env := by
  cases e <;> first | rfl | exact no_true h
theorem ck_notStar {N : Names} {sc : Scope} {ns : List (Option Str)} {m : ME} {e : Expr} (h : ck N sc ns m e = true) : notStar e = true := by
  have z := ck_head h
  cases e <;> first | rfl | exact no_true z
theorem ckEs_plain {N : Names} {sc : Scope} {ns : List (Option Str)} {env : Env} : ∀ {ms : MEs} {xs : List Expr}, ckEs N sc ns ms xs = true → plainArgs env xs
  | .nil, [], _ => trivial
  | .nil, _ :: _, h => by cases (show false = true from h)
  | .cons _ _, [], h => by cases (show false = true from h)
  | .cons m ms, x :: xs, h => by
    have h := And.intro (an1 h) (an2 h)
    exact ⟨starEach_plain (ck_notStar h.1), ckEs_plain h.2⟩
theorem ckEs_nil {N : Names} {sc : Scope} {ns : List (Option Str)} {ms : MEs} (h : ckEs N sc ns ms [] = true) : ms = .nil := by
  cases ms with
  | nil => rfl
  | cons _ _ => cases (show false = true from h)
theorem evalEs_length {T : Tab} {Φ : Funs} {Γ : Env'} {N : Names} {sc : Scope} {ns : List (Option Str)} : ∀ {ms : MEs} {xs : List Expr} {H H' : Hp} {vs : List Val}, ckEs N sc ns ms xs = true → evalEs T Φ ms Γ H = .ok vs H' → vs.length = xs.length
  | .nil, [], H, H', vs, _, e => by cases (show Res.ok [] H = .ok vs H' from e); rfl
  | .nil, _ :: _, _, _, _, h, _ => by cases (show false = true from h)
  | .cons _ _, [], _, _, _, h, _ => by cases (show false = true from h)
  | .cons m ms, x :: xs, H, H', vs, h, e => by
    have h := And.intro (an1 h) (an2 h)
    rw [evs_cons] at e
    cases e1 : evalE T Φ m Γ H with
    | bad => rw [bnd_bad e1] at e; exact no_bad e
    | exc c H1 => rw [bnd_exc e1] at e; exact no_exc e
    | ok v H1 =>
      rw [bnd_ok e1] at e
      cases e2 : evalEs T Φ ms Γ H1 with
      | bad => rw [bnd_bad e2] at e; exact no_bad e
      | exc c H2 => rw [bnd_exc e2] at e; exact no_exc e
      | ok vs' H2 =>
        rw [bnd_ok e2] at e
        cases e
        rw [List.length_cons, List.length_cons, evalEs_length h.2 e2]
section
variable {cx : Cx} {N : Names} {A : Around} {P : Amb} {env : Env} {Φ : Funs} {Γ : Env'}
theorem sim_nil : Sim cx A P (spliced (([] : List Expr).map fun e => (false, eval e env))) (evalEs cx.T Φ .nil Γ) (Amb.vrs cx) := by
  intro H ρ s R p
  exact wpAny_pure ⟨ρ, Full.refl _ _, R, .nil⟩
theorem sim_cons {m : ME} {ms : MEs} {e : Expr} {es : List Expr} (x : Sim cx A P (eval e env) (evalE cx.T Φ m Γ) (Amb.vr cx)) (y : Sim cx A P (spliced (es.map fun e => (false, eval e env))) (evalEs cx.T Φ ms Γ) (Amb.vrs cx)) :
    Sim cx A P (spliced ((e :: es).map fun e => (false, eval e env))) (evalEs cx.T Φ (.cons m ms) Γ) (Amb.vrs cx) := by
  intro H ρ s R p
  refine SimAt.bindK (K' := fun Q E s => wpAny (model cx.prog cx.w) A (spliced ((e :: es).map fun e => (false, eval e env))) Q E s) (K := fun v Q E s => wpAny (model cx.prog cx.w) A (spliced (es.map fun e => (false, eval e env))) (fun vs s' => Q (v :: vs) s') E s) (x H ρ s R p) ?_ ?_ ?_
  · intro b v H1 ρ1 s1 _ F1 R1 vr
    refine SimAt.bindK (K' := fun Q E s => wpAny (model cx.prog cx.w) A (spliced (es.map fun e => (false, eval e env))) (fun vs s' => Q (v :: vs) s') E s) (K := fun vs Q E s => Q (v :: vs) s) (y H1 ρ1 s1 R1 (P.st _ _ _ _ p F1)) ?_ ?_ ?_
    · intro bs vs H2 ρ2 s2 _ F2 R2 vrs
      exact ⟨ρ2, Full.refl _ _, R2, .cons (vr.step F2.step) vrs⟩
    · exact fun vs Q E Q' E' s h k _ => k _ _ h
    · exact fun Q E h => h
  · exact fun v Q E Q' E' s h k1 k2 => wpAny_mono h (fun _ _ => k1 _ _) k2
  · exact fun Q E h => Calls.spliced_cons h
theorem sim_tup {ms : MEs} {es : List Expr} {k : Nat} {pos : Pos} (hp : plainArgs env es) (hz : es.length ≤ 1000) (hlen : ∀ H vs H', evalEs cx.T Φ ms Γ H = .ok vs H' → vs.length = es.length) (y : Sim cx A P (spliced (es.map fun e => (false, eval e env))) (evalEs cx.T Φ ms Γ) (Amb.vrs cx)) :
    Sim cx A P (eval (.Tuple es k pos) env) (evalE cx.T Φ (.tup ms) Γ) (Amb.vr cx) := by
  intro H ρ s R p
  refine SimAt.bindK (K' := fun Q E s => wpAny (model cx.prog cx.w) A (eval (.Tuple es k pos) env) Q E s) (K := fun vs Q E s₁ => vs.length ≤ sizeLine ∧ Q (.ref s₁.heap.objs.size) { s₁ with heap := s₁.heap.push (tupO vs 0) }) (y H ρ s R p) ?_ ?_ ?_
  · intro bs vs H1 ρ1 s1 e1 F1 R1 vrs
    have z : bs.length ≤ sizeLine := by rw [hlen _ _ _ e1, sizeLine_eq]; omega
    have F := Full.push ρ1 s1.heap (tupO vs 0)
    exact ⟨by rw [← vrs.length]; exact z, ρ1, F, R1.push _ _, .tup (Heap.get?_push_size _ rfl) (R1.fresh_not (fresh_none _)) z (vrs.step F.step)⟩
  · exact fun vs Q E Q' E' s h k1 _ => ⟨h.1, k1 _ _ h.2⟩
  · exact fun Q E h => wpAny_Tuple (by rw [plainArgs_trees pos hp]; exact h)
theorem sim_list {ms : MEs} {es : List Expr} {pos : Pos} (hp : plainArgs env es) (hz : es.length ≤ 1000) (hlen : ∀ H vs H', evalEs cx.T Φ ms Γ H = .ok vs H' → vs.length = es.length) (y : Sim cx A P (spliced (es.map fun e => (false, eval e env))) (evalEs cx.T Φ ms Γ) (Amb.vrs cx)) :
    Sim cx A P (eval (.List es pos) env) (evalE cx.T Φ (.list ms) Γ) (Amb.vr cx) := by
  intro H ρ s R p
  refine SimAt.bindK (K' := fun Q E s => wpAny (model cx.prog cx.w) A (eval (.List es pos) env) Q E s) (K := fun vs Q E s₁ => vs.length ≤ sizeLine ∧ Q (.ref s₁.heap.objs.size) { s₁ with heap := s₁.heap.push (listO vs 0) }) (y H ρ s R p) ?_ ?_ ?_
  · intro bs vs H1 ρ1 s1 e1 F1 R1 vrs
    have z : bs.length ≤ sizeLine := by rw [hlen _ _ _ e1, sizeLine_eq]; omega
    refine SimK.andK (by rw [← vrs.length]; exact z) ?_
    exact R1.newList s1.toks vrs z
  · exact fun vs Q E Q' E' s h k1 _ => ⟨h.1, k1 _ _ h.2⟩
  · exact fun Q E h => wpAny_List (by rw [plainArgs_trees pos hp]; exact h)
end
end Mine
-- part MStmt
namespace Mine
open PySem
structure FullS (env : Env) (ρ : Rho) (h : Heap) (ρ' : Rho) (h' : Heap) : Prop where
  grow : Grow ρ h ρ'
  keep : ∀ b o, h.get? b = some o → ¬ Owned ρ b → b ≠ env.locals → (∀ y, env.cells.lookup y ≠ some b) → ∃ o', h'.get? b = some o' ∧ SameUp o o'
  live : Live h h'
theorem Full.toS {env : Env} {ρ ρ' : Rho} {h h' : Heap} (x : Full ρ h ρ' h') : FullS env ρ h ρ' h' := ⟨x.grow, fun b o e n _ _ => x.keep b o e n, x.live⟩
theorem FullS.refl (env : Env) (ρ : Rho) (h : Heap) : FullS env ρ h ρ h := (Full.refl ρ h).toS
theorem FullS.trans {env : Env} {ρ ρ' ρ'' : Rho} {h h' h'' : Heap} (x : FullS env ρ h ρ' h') (y : FullS env ρ' h' ρ'' h'') : FullS env ρ h ρ'' h'' :=
  ⟨x.grow.trans y.grow x.live, fun b o e n n1 n2 => by
      obtain ⟨o', e', u⟩ := x.keep b o e n n1 n2
      obtain ⟨o'', e'', u'⟩ := y.keep b o' e' (x.grow.not n e) n1 n2
      exact ⟨o'', e'', u.trans u'⟩, x.live.trans y.live⟩
section
variable {cx : Cx} {N : Names} {A : Around} {env : Env} {sc : Scope} {ns : List (Option Str)}
theorem EnvSt.notLoc {ρ : Rho} {h : Heap} (x : EnvSt cx env sc ρ h) {b : Addr} {o : Obj} (e : h.get? b = some o) (n : ∀ es k, o.data ≠ .dict es k) : b ≠ env.locals := fun q => by
  obtain ⟨m, ob, es, ep, e', d, _⟩ := x.loc
  rw [← q, e] at e'; cases e'
  exact n _ _ d
theorem EnvSt.notCell {ρ : Rho} {h : Heap} (x : EnvSt cx env sc ρ h) {b : Addr} {o : Obj} (e : h.get? b = some o) (n : ∀ v, o.data ≠ .cell v) (y : Str) : env.cells.lookup y ≠ some b := fun q => by
  obtain ⟨⟨v, ob, e', d⟩, _⟩ := x.cells y b q
  rw [e] at e'; cases e'
  exact n _ d
theorem FullS.step {ρ ρ' : Rho} {h h' : Heap} (x : EnvSt cx env sc ρ h) (F : FullS env ρ h ρ' h') : Step ρ h ρ' h' := by
  refine ⟨let ⟨e, h1, _⟩ := F.grow; ⟨e, h1⟩, fun b o e f n => ⟨?_, F.grow.not n e⟩, fun b o C e c n => ?_⟩
  · obtain ⟨o', e', u⟩ := F.keep b o e n (x.notLoc e f.notDict) (x.notCell e fun v q => by rcases f with ⟨_, _, _, f⟩ | ⟨_, _, f⟩ <;> rw [q] at f <;> cases f)
    rw [e', u.exact f.notDict]
  · obtain ⟨o', e', u⟩ := F.keep b o e n (x.notLoc e c.notDict) (x.notCell e fun v q => by obtain ⟨_, ⟨_, f⟩, _⟩ := c; rw [q] at f; cases f)
    rw [u.exact c.notDict] at e'
    exact ⟨o, e', c, F.grow.not n e⟩
noncomputable def SimSAt (cx : Cx) (A : Around) (env : Env) (sc : Scope) (ns : List (Option Str)) (r : ResS) (t : Sem Flow) (ρ : Rho) (s : Shared) : Prop :=
  match r with
  | .bad => True
  | .next Γ' H' => wpAny (model cx.prog cx.w) A t (fun f s' => f = .next ∧ ∃ ρ', FullS env ρ s.heap ρ' s'.heap ∧ Rel cx H' ρ' s' ∧ EnvOk cx env sc ns Γ' ρ' s'.heap) (fun _ _ => False) s
  | .ret v H' => wpAny (model cx.prog cx.w) A t (fun f s' => ∃ v' ρ', f = .ret v' ∧ FullS env ρ s.heap ρ' s'.heap ∧ Rel cx H' ρ' s' ∧ (VR cx ρ' s'.heap v v' ∧ EnvSt cx env sc ρ' s'.heap)) (fun _ _ => False) s
  | .exc c Γ' H' => wpAny (model cx.prog cx.w) A t (fun _ _ => False) (fun e s' => ∃ ρ', FullS env ρ s.heap ρ' s'.heap ∧ Rel cx H' ρ' s' ∧ EnvOk cx env sc ns Γ' ρ' s'.heap ∧ Flying cx ρ' s.heap s'.heap c e) s
noncomputable def SimS (cx : Cx) (A : Around) (l : List Env) (env : Env) (sc : Scope) (ns : List (Option Str)) (t : Sem Flow) (m : Env' → Hp → ResS) : Prop :=
  ∀ (Γ : Env') (H : Hp) (ρ : Rho) (s : Shared), Rel cx H ρ s → EnvOk cx env sc ns Γ ρ s.heap → FramesOk cx l ρ s.heap → SimSAt cx A env sc ns (m Γ H) t ρ s
theorem SimSAt.bind {α β : Type} {t : Sem α} {m : M β} {V : β → α → Amb} {Γ : Env'} {H : Hp} {ρ : Rho} {s : Shared} {t' : Sem Flow} {g : β → Hp → ResS} {K : α → Sem Flow} (e0 : EnvOk cx env sc ns Γ ρ s.heap) (x : SimAt cx A (m H) t V ρ s)
    (y : ∀ b a H' ρ' s', m H = .ok b H' → Full ρ s.heap ρ' s'.heap → Rel cx H' ρ' s' → EnvOk cx env sc ns Γ ρ' s'.heap → (V b a).P ρ' s'.heap → SimSAt cx A env sc ns (g b H') (K a) ρ' s')
    (k : ∀ Q E, wpAny (model cx.prog cx.w) A t (fun a s' => wpAny (model cx.prog cx.w) A (K a) Q E s') E s → wpAny (model cx.prog cx.w) A t' Q E s) :
    SimSAt cx A env sc ns (bndS m Γ g H) t' ρ s := by
  unfold bndS
  cases e : m H with
  | bad => trivial
  | exc c H' =>
    rw [e] at x
    refine k _ _ (wpAny_mono x (fun _ _ q => q.elim) fun ex s' ⟨ρ', F, R, fl⟩ => ⟨ρ', F.toS, R, e0.full F, fl⟩)
  | ok b H' =>
    rw [e] at x
    show SimSAt cx A env sc ns (g b H') t' ρ s
    cases e2 : g b H' with
    | bad => trivial
    | next Γ2 H2 =>
      refine k _ _ (wpAny_mono x (fun a s' ⟨ρ', F, R, v⟩ => ?_) fun _ _ q => q.elim)
      have z := y b a H' ρ' s' e F R (e0.full F) v
      rw [e2] at z
      exact wpAny_mono z (fun f s'' ⟨h1, ρ'', F', R', e'⟩ => ⟨h1, ρ'', F.toS.trans F', R', e'⟩) fun _ _ q => q.elim
    | ret v2 H2 =>
      refine k _ _ (wpAny_mono x (fun a s' ⟨ρ', F, R, v⟩ => ?_) fun _ _ q => q.elim)
      have z := y b a H' ρ' s' e F R (e0.full F) v
      rw [e2] at z
      exact wpAny_mono z (fun f s'' ⟨v', ρ'', h1, F', R', e'⟩ => ⟨v', ρ'', h1, F.toS.trans F', R', e'⟩) fun _ _ q => q.elim
    | exc c2 Γ2 H2 =>
      refine k _ _ (wpAny_mono x (fun a s' ⟨ρ', F, R, v⟩ => ?_) fun _ _ q => q.elim)
      have z := y b a H' ρ' s' e F R (e0.full F) v
      rw [e2] at z
      exact wpAny_mono z (fun _ _ q => q) fun ex s'' ⟨ρ'', F', R', e', fl⟩ => ⟨ρ'', F.toS.trans F', R', e', fl.older F.live⟩
theorem store_var {Γ : Env'} {H : Hp} {ρ : Rho} {s : Shared} {i : Nat} {y : Str} {mv : Val} {v : Value} {Q : Unit → Shared → Prop} {E : Value → Shared → Prop} (hlen : Γ.length = ns.length) (hnd : ∀ (i j : Nat) (y : Str), ns[i]? = some (some y) → ns[j]? = some (some y) → i = j)
    (R : Rel cx H ρ s) (e0 : EnvOk cx env sc ns Γ ρ s.heap) (ho : isOwn sc ns i y = true) (hv : VR cx ρ s.heap mv v)
    (k : ∀ h' tk, FullS env ρ s.heap ρ h' → Rel cx H ρ { s with heap := h', toks := tk } → EnvOk cx env sc ns (Γ.set i (some mv)) ρ h' →
      (∃ q o, ((sc.names.lookup y = some .local ∧ q = env.locals) ∨ (sc.names.lookup y = some .cell ∧ env.cells.lookup y = some q)) ∧ Heap.SameBut q s.heap h' ∧ h'.get? q = some o) → Q () { s with heap := h', toks := tk }) :
    wpAny (model cx.prog cx.w) A (storeName env y v) Q E s := by
  have hown : (sc.names.lookup y = some .local ∨ sc.names.lookup y = some .cell) ∧ ns[i]? = some (some y) := by
    exact ⟨or_of (an1 ho), of_decide_eq_true (an2 ho)⟩
  obtain ⟨hk, hi⟩ := hown
  have hiΓ : i < Γ.length := by rw [hlen]; exact (List.getElem?_eq_some_iff.mp hi).1
  have set_i : (Γ.set i (some mv))[i]? = some (some mv) := by rw [List.getElem?_set_self hiΓ]
  have set_j : ∀ j, j ≠ i → (Γ.set i (some mv))[j]? = Γ[j]? := fun j hj => List.getElem?_set_ne (fun q => hj q.symm)
  rcases hk with hk | hk
  · have kd : env.kindOf y = some .local := e0.st.kinds y _ hk
    obtain ⟨m, hm⟩ := e0.st.loc
    refine wpAny_storeName_local kd hm (fun h' hn hs => ?_) (by rw [e0.st.fn]; rfl)
    obtain ⟨o, es, ep, eo, d, _⟩ := id hm
    obtain ⟨o', es', ep', eo', d', _⟩ := id hn
    have n1 : ¬ Fixed o := fun f => f.notDict _ _ d
    have n2 : ∀ C, ¬ IsExcO o C := fun C f => f.notDict _ _ d
    have St : Step ρ s.heap ρ h' := Step.but eo' eo hs n1 n2
    have notc : ∀ z c, env.cells.lookup z = some c → c ≠ env.locals := fun z c hc q => by
      obtain ⟨⟨v, ob, e', dc⟩, _⟩ := e0.st.cells z c hc
      rw [q, eo] at e'; cases e'
      rw [d] at dc; cases dc
    refine (fun a b c => k h' (s.toks + 1) a b c ⟨env.locals, o', .inl ⟨hk, rfl⟩, hs, eo'⟩) ⟨Grow.refl _ _, fun b ob eb _ nb _ => ⟨ob, by rw [hs.2 b nb]; exact eb, .refl ob⟩, SameBut.live hs eo'⟩ (R.but eo' eo hs n1 n2 e0.st.locN e0.st.locB) ⟨?_, by rw [List.length_set]; exact hlen, ?_⟩
    · refine ⟨e0.st.fn, e0.st.glob, e0.st.blt, e0.st.kinds, ⟨_, hn⟩, e0.st.locN, e0.st.locB, fun z c hc => ?_, e0.st.hasCell, e0.st.apart⟩
      obtain ⟨⟨u, hu⟩, c1, c2⟩ := e0.st.cells z c hc
      exact ⟨⟨u, IsCell_keep hu fun ob eb => ⟨ob, by rw [hs.2 c (notc z c hc)]; exact eb, rfl⟩⟩, c1, c2⟩
    · intro j z mz hj hz
      by_cases q : j = i
      · subst q
        rw [set_i] at hz; cases hz
        rw [hi] at hj; cases hj
        exact ⟨v, .inl ⟨kd, _, hn, by simp⟩, hv.step St⟩
      · rw [set_j j q] at hz
        obtain ⟨u, hu, ru⟩ := e0.vals j z mz hj hz
        have zy : z ≠ y := fun e => q (hnd j i y (e ▸ hj) hi)
        refine ⟨u, ?_, ru.step St⟩
        rcases hu with ⟨kz, m', hm', ez⟩ | ⟨kz, c, hc, ez⟩
        · refine .inl ⟨kz, _, hn, ?_⟩
          refine hideG fun G kG => ?_
          obtain ⟨o2, es2, ep2, eo2, d2, _, f2⟩ := hm'
          obtain ⟨o3, es3, ep3, eo3, d3, _, f3⟩ := hm
          refine kG ?_
          rw [eo2] at eo3; cases eo3
          rw [d2] at d3; cases d3
          simp only [if_neg zy]
          rw [← f3 z, f2 z]; exact ez
        · exact .inr ⟨kz, c, hc, IsCell_keep ez fun ob eb => ⟨ob, by rw [hs.2 c (notc z c hc)]; exact eb, rfl⟩⟩
  · have kd : env.kindOf y = some .cell := e0.st.kinds y _ hk
    refine hideG fun G kG => ?_
    obtain ⟨c, hc⟩ := e0.st.hasCell y (.inl hk)
    obtain ⟨⟨u0, hu0⟩, cn, cb⟩ := e0.st.cells y c hc
    refine kG ?_
    refine wpAny_storeName_cell e0.st.fn kd hc hu0 fun h' hn hs => ?_
    refine hideG fun G kG => ?_
    obtain ⟨o, eo, d⟩ := id hu0
    obtain ⟨o', eo', d'⟩ := id hn
    refine kG ?_
    have n1 : ¬ Fixed o := fun f => by rcases f with ⟨_, _, _, f⟩ | ⟨_, _, f⟩ <;> rw [d] at f <;> cases f
    have n2 : ∀ C, ¬ IsExcO o C := fun C f => by obtain ⟨_, ⟨_, f⟩, _⟩ := f; rw [d] at f; cases f
    have St : Step ρ s.heap ρ h' := Step.but eo' eo hs n1 n2
    have notl : env.locals ≠ c := fun q => by
      obtain ⟨m, ob, es, ep, e', dl, _⟩ := e0.st.loc
      rw [q, eo] at e'; cases e'
      rw [d] at dl; cases dl
    have locK : ∀ ob, s.heap.get? env.locals = some ob → ∃ o', h'.get? env.locals = some o' ∧ o'.data = ob.data := fun ob eb => ⟨ob, by rw [hs.2 _ notl]; exact eb, rfl⟩
    refine (fun a b c' => k h' s.toks a b c' ⟨c, o', .inr ⟨hk, hc⟩, hs, eo'⟩) ⟨Grow.refl _ _, fun b ob eb _ _ nb => ⟨ob, by rw [hs.2 b (fun q => nb y (q ▸ hc))]; exact eb, .refl ob⟩, SameBut.live hs eo'⟩ (R.but eo' eo hs n1 n2 cn cb) ⟨?_, by rw [List.length_set]; exact hlen, ?_⟩
    · obtain ⟨m, hm⟩ := e0.st.loc
      refine ⟨e0.st.fn, e0.st.glob, e0.st.blt, e0.st.kinds, ⟨m, Heap_Ns_keep hm locK⟩, e0.st.locN, e0.st.locB, fun z c' hc' => ?_, e0.st.hasCell, e0.st.apart⟩
      obtain ⟨⟨u, hu⟩, c1, c2⟩ := e0.st.cells z c' hc'
      by_cases q : c' = c
      · subst q; exact ⟨⟨_, hn⟩, c1, c2⟩
      · exact ⟨⟨u, IsCell_keep hu fun ob eb => ⟨ob, by rw [hs.2 c' q]; exact eb, rfl⟩⟩, c1, c2⟩
    · intro j z mz hj hz
      by_cases q : j = i
      · subst q
        rw [set_i] at hz; cases hz
        rw [hi] at hj; cases hj
        exact ⟨v, .inr ⟨.inl kd, c, hc, hn⟩, hv.step St⟩
      · rw [set_j j q] at hz
        obtain ⟨u, hu, ru⟩ := e0.vals j z mz hj hz
        have zy : z ≠ y := fun e => q (hnd j i y (e ▸ hj) hi)
        refine ⟨u, ?_, ru.step St⟩
        rcases hu with ⟨kz, m', hm', ez⟩ | ⟨kz, c', hc', ez⟩
        · exact .inl ⟨kz, m', Heap_Ns_keep hm' locK, ez⟩
        · have cc : c' ≠ c := fun e => zy (e0.st.apart z y c' hc' (e ▸ hc))
          exact .inr ⟨kz, c', hc', IsCell_keep ez fun ob eb => ⟨ob, by rw [hs.2 c' cc]; exact eb, rfl⟩⟩
end
end Mine
-- part MNote
namespace Mine
open PySem
structure Off (cx : Cx) (ρ : Rho) (h g g' : Heap) : Prop where
  old : ∀ b o o0, g.get? b = some o → h.get? b = some o0 → ∃ o', g'.get? b = some o' ∧ SameUp o o'
  own : ∀ b o, g.get? b = some o → Owned ρ b → g'.get? b = some o
  base : ∀ b o o0, g.get? b = some o → cx.h₀.get? b = some o0 → g'.get? b = some o
  fix : ∀ b o, g.get? b = some o → Fixed o → g'.get? b = some o
  exc : ∀ b o C, g.get? b = some o → IsExcO o C → ∃ o', g'.get? b = some o' ∧ IsExcO o' C
  cell : ∀ b o v, g.get? b = some o → o.data = .cell v → g'.get? b = some o
  dict : ∀ b o es n, g.get? b = some o → o.data = .dict es n → ∃ o', g'.get? b = some o' ∧ SameUp o o'
  live : Live g g'
section
variable {cx : Cx} {ρ ρ₀ : Rho} {h g g' g'' : Heap} {H : Hp} {s : Shared} {env : Env} {sc : Scope} {ns : List (Option Str)} {Γ : Env'} {l : List Env}
theorem Off.refl : Off cx ρ h g g := ⟨fun _ o _ e _ => ⟨o, e, .refl o⟩, fun _ _ e _ => e, fun _ _ _ e _ => e, fun _ _ e _ => e, fun _ o _ e x => ⟨o, e, x⟩, fun _ _ _ e _ => e, fun _ o _ _ e _ => ⟨o, e, .refl o⟩, .refl g⟩
theorem Off.trans (x : Off cx ρ h g g') (y : Off cx ρ h g' g'') : Off cx ρ h g g'' := by
  refine ⟨fun b o o0 e e0 => ?_, fun b o e w => y.own b o (x.own b o e w) w, fun b o o0 e e0 => y.base b o o0 (x.base b o o0 e e0) e0, fun b o e f => y.fix b o (x.fix b o e f) f, fun b o C e f => ?_, fun b o v e d => y.cell b o v (x.cell b o v e d) d, fun b o es n e d => ?_, x.live.trans y.live⟩
  · obtain ⟨o1, e1, u1⟩ := x.old b o o0 e e0
    obtain ⟨o2, e2, u2⟩ := y.old b o1 o0 e1 e0
    exact ⟨o2, e2, u1.trans u2⟩
  · obtain ⟨o1, e1, f1⟩ := x.exc b o C e f
    exact y.exc b o1 C e1 f1
  · obtain ⟨o1, e1, u1⟩ := x.dict b o es n e d
    obtain ⟨o2, e2, u2⟩ := y.dict b o1 es n e1 (u1.data.trans d)
    exact ⟨o2, e2, u1.trans u2⟩
theorem Off.step (x : Off cx ρ h g g') : Step ρ g ρ g' := ⟨⟨[], by simp⟩, fun b o e f n => ⟨x.fix b o e f, n⟩, fun b o C e c n => by obtain ⟨o', e', c'⟩ := x.exc b o C e c; exact ⟨o', e', c', n⟩⟩
theorem Off.rel {h' : Heap} (x : Off cx ρ h s.heap h') (R : Rel cx H ρ s) : Rel cx H ρ { s with heap := h' } :=
  R.same (tk := s.toks) x.step (fun b o w e => x.own b o e w) fun b o e => x.base b o o (R.base b o e) e
theorem Off.full (x : Off cx ρ h g g') (F : Full ρ₀ h ρ g) : Full ρ₀ h ρ g' := ⟨F.grow, fun b o e n => by
    refine hideG fun G kG => ?_
    obtain ⟨o1, e1, u1⟩ := F.keep b o e n
    obtain ⟨o2, e2, u2⟩ := x.old b o1 o e1 e
    refine kG ?_
    exact ⟨o2, e2, u1.trans u2⟩, F.live.trans x.live⟩
theorem Off.fullS (x : Off cx ρ h g g') (F : FullS env ρ₀ h ρ g) : FullS env ρ₀ h ρ g' := ⟨F.grow, fun b o e n n1 n2 => by
    obtain ⟨o1, e1, u1⟩ := F.keep b o e n n1 n2
    obtain ⟨o2, e2, u2⟩ := x.old b o1 o e1 e
    exact ⟨o2, e2, u1.trans u2⟩, F.live.trans x.live⟩
theorem Off.nsK (x : Off cx ρ h g g') {a : Addr} {m : Str → Option Value} (n : g.Ns a m) : g'.Ns a m := by
  obtain ⟨o, es, ep, e, d, r⟩ := n
  obtain ⟨o', e', u⟩ := x.dict a o _ _ e d
  exact ⟨o', es, ep, e', u.data.trans d, r⟩
theorem Off.isCell (x : Off cx ρ h g g') {a : Addr} {v : Option Value} (n : g.IsCell a v) : g'.IsCell a v := by
  obtain ⟨o, e, d⟩ := n
  exact ⟨o, x.cell a o _ e d, d⟩
theorem Off.envK (x : Off cx ρ h g g') (w : EnvOk cx env sc ns Γ ρ g) : EnvOk cx env sc ns Γ ρ g' := by
  obtain ⟨m, hm⟩ := w.st.loc
  refine ⟨⟨w.st.fn, w.st.glob, w.st.blt, w.st.kinds, ⟨m, x.nsK hm⟩, w.st.locN, w.st.locB, fun y c hc => ?_, w.st.hasCell, w.st.apart⟩, w.len, fun i y mv hi hm => ?_⟩
  · obtain ⟨⟨v, hv⟩, n, b⟩ := w.st.cells y c hc
    exact ⟨⟨v, x.isCell hv⟩, n, b⟩
  · obtain ⟨v, hv, r⟩ := w.vals i y mv hi hm
    refine ⟨v, ?_, r.step x.step⟩
    rcases hv with ⟨k, m, hm, e⟩ | ⟨k, c, hc, e⟩
    · exact .inl ⟨k, m, x.nsK hm, e⟩
    · exact .inr ⟨k, c, hc, x.isCell e⟩
theorem Off.frames (x : Off cx ρ h g g') (w : FramesOk cx l ρ g) : FramesOk cx l ρ g' := fun env he => by
  refine hideG fun G kG => ?_
  obtain ⟨k, L, o, h1, h2, h3, ⟨es, n, h5⟩, h6⟩ := w env he
  obtain ⟨o', e', u⟩ := x.dict L o es n h3 h5
  refine kG ?_
  exact ⟨k, L, o', h1, h2, e', ⟨es, n, u.data.trans h5⟩, h6⟩
theorem Off.push (o : Obj) : Off cx ρ h g (g.push o) := by
  have k : ∀ b o', g.get? b = some o' → (g.push o).get? b = some o' := fun b o' e => Heap.get?_push_of_some o e
  exact ⟨fun b o _ e _ => ⟨o, k b o e, .refl o⟩, fun b o e _ => k b o e, fun b o _ e _ => k b o e, fun b o e _ => k b o e, fun b o _ e x => ⟨o, k b o e, x⟩, fun b o _ e _ => k b o e, fun b o _ _ e _ => ⟨o, k b o e, .refl o⟩, fun b o e => ⟨o, k b o e⟩⟩
theorem Off.upd {a : Addr} {o : Obj} {vs : Array Value} {f : Array Value → Array Value} (e : g.get? a = some o) (d : o.data = .fields vs) (hn : h.get? a = none) (hb : cx.h₀.get? a = none) (no : ¬ Owned ρ a) (nf : ¬ Fixed o) : Off cx ρ h g (g.update a (Obj.mapFields f)) := by
  have self := Heap.get?_update_self (h := g) (Obj.mapFields f) e (Obj.isFreed_of_fields (Obj.data_mapFields d f))
  have k : ∀ b o', b ≠ a → g.get? b = some o' → (g.update a (Obj.mapFields f)).get? b = some o' := fun b o' n e' => (Heap.get?_update_other _ _ (Ne.symm n)).trans e'
  have is : ∀ b o', g.get? b = some o' → b = a → o' = o := fun b o' e' q => by rw [q, e] at e'; cases e'; rfl
  refine ⟨fun b ob o0 eb e0 => ⟨ob, k b ob (fun q => by rw [q, hn] at e0; cases e0) eb, .refl ob⟩, fun b ob eb w => k b ob (fun q => no (q ▸ w)) eb, fun b ob o0 eb e0 => k b ob (fun q => by rw [q, hb] at e0; cases e0) eb,
    fun b ob eb fx => k b ob (fun q => nf (is b ob eb q ▸ fx)) eb, fun b ob C eb x => ?_, fun b ob v eb db => k b ob (fun q => by rw [is b ob eb q, d] at db; cases db) eb, fun b ob es n eb db => ⟨ob, k b ob (fun q => by rw [is b ob eb q, d] at db; cases db) eb, .refl ob⟩, fun b ob eb => ?_⟩
  · by_cases q : b = a
    · subst q
      rw [e] at eb; cases eb
      exact ⟨_, self, (Obj.cls_mapFields _ _).trans x.1, ⟨_, Obj.data_mapFields d f⟩, by obtain ⟨c, dd, dt, sl⟩ := o; cases d; exact x.2.2⟩
    · exact ⟨ob, k b ob q eb, x⟩
  · by_cases q : b = a
    · refine Eq.symm q ▸ ?_; exact ⟨_, self⟩
    · exact ⟨ob, k b ob q eb⟩
theorem Off.slots {S : List Addr} (x : Heap.SlotsOnly S g g') (fr : ∀ b ∈ S, cx.h₀.get? b = none ∧ ¬ Owned ρ b ∧ ∀ o, g.get? b = some o → ∃ es n, o.data = .dict es n) : Off cx ρ h g g' := by
  have k : ∀ b o, b ∉ S → g.get? b = some o → g'.get? b = some o := fun b o n e => (x.2.1 b n).trans e
  have up : ∀ b o, g.get? b = some o → ∃ o', g'.get? b = some o' ∧ SameUp o o' := fun b o e => by
    by_cases m : b ∈ S
    · obtain ⟨sl, e'⟩ := x.2.2 b o e
      exact ⟨_, e', .inr ⟨(fr b m).2.2 o e, rfl⟩⟩
    · exact ⟨o, k b o m e, .refl o⟩
  refine ⟨fun b o _ e _ => up b o e, fun b o e w => k b o (fun m => (fr b m).2.1 w) e, fun b o o0 e e0 => k b o (fun m => by rw [(fr b m).1] at e0; cases e0) e, fun b o e f => k b o (fun m => ?_) e, fun b o C e f => ⟨o, k b o (fun m => ?_) e, f⟩, fun b o v e d => k b o (fun m => ?_) e, fun b o es n e _ => up b o e, fun b o e => ?_⟩
  · obtain ⟨es, n, d⟩ := (fr b m).2.2 o e
    exact f.notDict es n d
  · obtain ⟨es, n, d⟩ := (fr b m).2.2 o e
    exact f.notDict es n d
  · obtain ⟨es, n, d'⟩ := (fr b m).2.2 o e
    rw [d] at d'; cases d'
  · obtain ⟨o', e', _⟩ := up b o e
    exact ⟨o', e'⟩
structure Flown (cx : Cx) (ρ : Rho) (h h' : Heap) (c : Nat) (e : Value) : Prop where
  is : ∃ (a C : Addr) (vs : Array Value) (tb : Addr) (tvs : Array Value), e = .ref a ∧ cx.cls[c]? = some (.ref C) ∧ h.get? a = none ∧ h'.get? a = some { cls := .ref C, dict := none, data := .fields vs, slots := #[] } ∧ vs.size = 6 ∧ ¬ Owned ρ a ∧
    vs[1]? = some (.ref tb) ∧ h.get? tb = none ∧ h'.get? tb = some { cls := .type "traceback", dict := none, data := .fields tvs, slots := #[] } ∧ tvs.size = 11 ∧ ¬ Owned ρ tb
theorem Flown.to {c : Nat} {e : Value} (x : Flown cx ρ h g c e) : Flying cx ρ h g c e := by
  obtain ⟨a, C, vs, tb, tvs, h1, h2, h3, h4, h5, h6, h7⟩ := x.is
  exact ⟨a, C, vs, h1, h2, h3, h4, h5, h6, .inr ⟨tb, tvs, h7⟩⟩
theorem Flown.vr {c : Nat} {e : Value} (x : Flown cx ρ h g c e) : VR cx ρ g (.exc c) e := by
  obtain ⟨a, C, vs, tb, tvs, hr0, h2, h3, h4, h5, h6, _⟩ := x.is; refine Eq.symm hr0 ▸ ?_
  exact .exc h4 h6 h2 ⟨rfl, ⟨_, rfl⟩, rfl⟩
theorem rec_not_fixed {C : Addr} {vs : Array Value} : ¬ Fixed { cls := .ref C, dict := none, data := .fields vs, slots := #[] } := by
  rintro (⟨q, _⟩ | ⟨q, _⟩) <;> cases q
theorem tb_not_fixed {vs : Array Value} : ¬ Fixed { cls := .type "traceback", dict := none, data := .fields vs, slots := #[] } := by
  rintro (⟨q, _⟩ | ⟨q, _⟩)
  · exact absurd (show Value.type "traceback" = Value.type "tuple" from q) (by decide)
  · exact absurd (show Value.type "traceback" = Value.type "range" from q) (by decide)
theorem frames_fun (w : FramesOk cx l ρ g) : g.FunFrames cx.h₀ l := by
  induction l with
  | nil => trivial
  | cons env l ih =>
    refine hideG fun G kG => ?_
    obtain ⟨k, L, o, h1, h2, h3, ⟨es, n, h5⟩, _⟩ := w env (.head _)
    refine kG ?_
    exact ⟨k, ⟨L, o, h1, h2, h3, fun vs q => by rw [h5] at q; cases q⟩, ih fun e he => w e (.tail _ he)⟩
theorem frames_mem (w : FramesOk cx l ρ g) : ∀ b ∈ l.filterMap (·.frame), cx.h₀.get? b = none ∧ ¬ Owned ρ b ∧ ∀ o, g.get? b = some o → ∃ es n, o.data = .dict es n := fun b hb => by
  refine hideG fun G kG => ?_
  obtain ⟨env, he, hf⟩ := List.mem_filterMap.mp hb
  obtain ⟨k, L, o, h1, h2, h3, h5, h6⟩ := w env he
  refine kG ?_
  rw [h1] at hf; cases hf
  exact ⟨h2, h6, fun o' e' => by rw [h3] at e'; cases e'; exact h5⟩
end
section
variable {cx : Cx} {ρ : Rho} {h : Heap} {A : Around} {env : Env} {outer : List Env} {L : Addr} {s : Shared} {Q : Unit → Shared → Prop} {E : Value → Shared → Prop} {c : Nat} {e : Value} {H : Hp}
theorem wp_entry {a C : Addr} {vs : Array Value} {head : Value} {hn : Bool} (hfr : A.frames = some (env :: outer)) (hf : env.frame = some L) (w : FramesOk cx (env :: outer) ρ s.heap) (R : Rel cx H ρ s) (lb : Live cx.h₀ h) (lh : Live h s.heap) (hC : cx.cls[c]? = some (.ref C)) (ha : h.get? a = none) (ga : s.heap.get? a = some { cls := .ref C, dict := none, data := .fields vs, slots := #[] }) (hz : vs.size = 6) (no : ¬ Owned ρ a)
    (k : ∀ h', Off cx ρ h s.heap h' → Flown cx ρ h h' c (.ref a) → Q () { s with heap := h' }) :
    wpAny (model cx.prog cx.w) A (do let x ← frameOf env; let pl ← entryPlaceOf L hn; let b ← EntryCells.newEntry head x .none (rawInt L) .none pl; setField (.ref a) 1 b) Q E s := by
  refine wpAny_bind (wpAny_frameOf_fun hfr (frames_fun w) hf fun h₁ hs => ?_)
  have o1 : Off cx ρ h s.heap h₁ := Off.slots hs (frames_mem w)
  refine wpAny_bind (wpAny_entryPlaceOf fun pl hpl => ?_)
  unfold EntryCells.newEntry newFields
  refine wpAny_bind (wpAny_newObj_type ?_ (hpl.sizeOk5 _ _ _ _ _))
  have na : a ∉ (env :: outer).filterMap (·.frame) := fun m => by
    obtain ⟨es, n, d⟩ := (frames_mem w a m).2.2 _ ga
    cases d
  have ga1 : h₁.get? a = some { cls := .ref C, dict := none, data := .fields vs, slots := #[] } := (hs.2.1 a na).trans ga
  generalize ht : ({ cls := .type "traceback", dict := none, data := .fields ([head, .ref L, .none, rawInt L, .none] ++ (if pl.isEmpty then List.replicate 6 Value.none else pl)).toArray } : Obj) = t
  have sz : ([head, .ref L, .none, rawInt L, .none] ++ (if pl.isEmpty then List.replicate 6 Value.none else pl)).toArray.size = 11 := by
    rcases hpl with rfl | ⟨_, _, _, _, _, _, _, rfl⟩ <;> rfl
  have ga2 : (h₁.push t).get? a = some { cls := .ref C, dict := none, data := .fields vs, slots := #[] } := Heap.get?_push_of_some t ga1
  refine wpAny_setField ga2 rfl (by omega) ?_
  have ne : h₁.objs.size ≠ a := Nat.ne_of_gt (Heap.lt_size ga1)
  have gt : (h₁.push t).get? h₁.objs.size = some t := Heap.get?_push_size h₁ (by rw [← ht]; rfl)
  have R1 : Rel cx H ρ { s with heap := h₁ } := o1.rel R
  have hb : cx.h₀.get? a = none := lb.none ha
  have o2 : Off cx ρ h s.heap ((h₁.push t).update a (Obj.mapFields (·.setIfInBounds 1 (Value.ref h₁.objs.size)))) := (o1.trans (Off.push t)).trans (Off.upd ga2 rfl ha hb no rec_not_fixed)
  refine k _ o2 ⟨a, C, vs.setIfInBounds 1 (.ref h₁.objs.size), h₁.objs.size, _, rfl, hC, ha, Heap.get?_update_self _ ga2 rfl, by rw [Array.size_setIfInBounds]; exact hz, no, ?_, ?_, ((Heap.get?_update_other _ _ (Ne.symm ne)).trans gt).trans (congrArg some ht.symm), sz, R1.fresh_not (fresh_none h₁)⟩
  · rw [Array.getElem?_setIfInBounds_self_of_lt (by omega)]
  · refine lh.none ?_
    rw [hs.1]; exact fresh_none s.heap
theorem wp_note (hfr : A.frames = some (env :: outer)) (hf : env.frame = some L) (w : FramesOk cx (env :: outer) ρ s.heap) (R : Rel cx H ρ s) (lb : Live cx.h₀ h) (lh : Live h s.heap) (fl : Flying cx ρ h s.heap c e)
    (k : ∀ h', Off cx ρ h s.heap h' → Flown cx ρ h h' c e → Q () { s with heap := h' }) : wpAny (model cx.prog cx.w) A (noteFrame e env) Q E s := by
  refine hideG fun G kG => ?_
  obtain ⟨a, C, vs, rfl, hC, ha, ga, hz, no, h7⟩ := fl.is
  refine kG ?_
  unfold noteFrame
  simp only [hf]
  rcases h7 with h1 | ⟨tb, tvs, h1, htb, gtb, hzt, not⟩
  · refine wpAny_bind (wpAny_field ga rfl h1 ?_)
    exact wp_entry hfr hf w R lb lh hC ha ga hz no k
  · refine wpAny_bind (wpAny_field ga rfl h1 ?_)
    obtain ⟨x3, h3⟩ : ∃ x, tvs[3]? = some x := ⟨_, Array.getElem?_eq_getElem (by omega)⟩
    refine wpAny_bind (wpAny_field gtb rfl h3 ?_)
    by_cases q : (x3 == rawInt L) = true
    · rw [if_pos q]
      exact wpAny_pure (k _ Off.refl ⟨a, C, vs, tb, tvs, rfl, hC, ha, ga, hz, no, h1, htb, gtb, hzt, not⟩)
    · rw [if_neg q]
      refine wpAny_bind (wpAny_setField gtb rfl (by omega) ?_)
      have o1 : Off cx ρ h s.heap (s.heap.update tb (Obj.mapFields (·.setIfInBounds 3 Value.none))) := Off.upd gtb rfl htb (lb.none htb) not tb_not_fixed
      have ne : tb ≠ a := fun q => by rw [q, ga] at gtb; exact nomatch gtb
      exact wp_entry (s := { s with heap := s.heap.update tb (Obj.mapFields (·.setIfInBounds 3 Value.none)) }) hfr hf (o1.frames w) (o1.rel R) lb (lh.trans o1.live) hC ha ((Heap.get?_update_other _ _ ne).trans ga) hz no fun h' o' fl' => k h' (o1.trans o') fl'
theorem wp_flight {fr : Option Addr} (lb : Live cx.h₀ h) (fl : Flown cx ρ h s.heap c e) (k : ∀ h', Off cx ρ h s.heap h' → Flown cx ρ h h' c e → Q () { s with heap := h' }) : wpAny (model cx.prog cx.w) A (setFlight e fr) Q E s := by
  refine hideG fun G kG => ?_
  obtain ⟨a, C, vs, tb, tvs, rfl, hC, ha, ga, hz, no, h1, htb, gtb, hzt, not⟩ := fl.is
  refine kG ?_
  unfold setFlight
  refine wpAny_bind (wpAny_field ga rfl h1 ?_)
  refine wpAny_setField gtb rfl (by omega) ?_
  have ne : tb ≠ a := fun q => by rw [q, ga] at gtb; exact nomatch gtb
  exact k _ (Off.upd gtb rfl htb (lb.none htb) not tb_not_fixed) ⟨a, C, vs, tb, _, rfl, hC, ha, (Heap.get?_update_other _ _ ne).trans ga, hz, no, h1, htb, Heap.get?_update_self _ gtb rfl, by rw [Array.size_setIfInBounds]; exact hzt, not⟩
theorem wp_leaving (hfr : A.frames = some (env :: outer)) (hf : env.frame = some L) (w : FramesOk cx (env :: outer) ρ s.heap) (R : Rel cx H ρ s) (lb : Live cx.h₀ h) (lh : Live h s.heap) (fl : Flying cx ρ h s.heap c e)
    (k : ∀ h', Off cx ρ h s.heap h' → Flown cx ρ h h' c e → Q () { s with heap := h' }) : wpAny (model cx.prog cx.w) A (leaving env e) Q E s := by
  unfold leaving
  exact wpAny_bind (wp_note hfr hf w R lb lh fl fun h1 o1 fl1 => wp_flight (s := { s with heap := h1 }) lb fl1 fun h2 o2 fl2 => k h2 (o1.trans o2) fl2)
theorem wp_back (lb : Live cx.h₀ h) (fl : Flown cx ρ h s.heap c e) (k : ∀ h', Off cx ρ h s.heap h' → Flown cx ρ h h' c e → E e { s with heap := h' }) : cameBackBy (model cx.prog cx.w) A env E e s := by
  refine hideG fun G kG => ?_
  obtain ⟨a, C, vs, tb, tvs, rfl, hC, ha, ga, hz, no, h1, htb, gtb, hzt, not⟩ := fl.is
  refine kG ?_
  unfold cameBackBy
  refine wpAny_bind (wpAny_field ga rfl h1 ?_)
  exact wp_flight lb ⟨a, C, vs, tb, tvs, rfl, hC, ha, ga, hz, no, h1, htb, gtb, hzt, not⟩ fun h' o' fl' => k h' o' fl'
end
end Mine
-- part MFun
namespace Mine
open PySem
noncomputable def FunsOk (cx : Cx) (Φ : Funs) (d : Nat) : Prop :=
  ∀ (k : Nat) (a : Addr) (args : List Val) (vals : List Value) (A : Around) (l : List Env), cx.fns[k]? = some a → RoomF A d → A.frames = some l →
    Sim cx A ((Amb.vrs cx args vals).and (Amb.frames cx l)) (call (.ref a) vals) (Φ k args) (Amb.vr cx)
section
variable {cx : Cx} {N : Names} {A : Around} {env : Env} {sc : Scope} {ns : List (Option Str)} {Γ : Env'} {Φ : Funs} {d : Nat} {l : List Env}
theorem Base.func (B : Base cx N) {k : Nat} {a : Addr} (hk : cx.fns[k]? = some a) (hd : ∃ f, cx.T.funs[k]? = some f) : ∃ o fd, cx.h₀.get? a = some o ∧ o.data = .func fd := by
  refine hideG fun G kG => ?_
  obtain ⟨f, hf⟩ := hd
  obtain ⟨o, fd, body, ns, e, _, d, _⟩ := (B.fns k a f hk hf).is
  refine kG ?_
  exact ⟨o, fd, e, d⟩
theorem sim_callU (B : Base cx N) {f : Nat} (hΦ : ∀ a args vals, cx.fns[f]? = some a → Sim cx A ((Amb.vrs cx args vals).and (Amb.frames cx l)) (call (.ref a) vals) (Φ f args) (Amb.vr cx)) {x : Str} {xs : List Expr} {es : MEs} {np pos : Pos} (hg : isGlob sc x = true) (hk : hasNo N.funs x f = true) (hex : ∃ g, cx.T.funs[f]? = some g) (hes : ckEs N sc ns es xs = true)
    (y : Sim cx A ((Amb.env cx env sc ns Γ).and (Amb.frames cx l)) (spliced (xs.map fun e => (false, eval e env))) (evalEs cx.T Φ es Γ) (Amb.vrs cx)) :
    Sim cx A ((Amb.env cx env sc ns Γ).and (Amb.frames cx l)) (eval (.Call (.Name x np) xs [] pos) env) (evalE cx.T Φ (.call f es) Γ) (Amb.vr cx) := by
  refine hideG fun G kG => ?_
  obtain ⟨mg, mb, ng, nb, q, _⟩ := B.ns
  obtain ⟨a, ha, hx⟩ := q x f (hasNo_eq hk)
  obtain ⟨o, fd, ho, hd⟩ := B.func ha hex
  refine kG ?_
  intro H ρ s R p
  refine SimK.mono (simK_args (f := .ref a) (K := fun vs Q E s => (s.heap.get? a = some o ∧ o.data = .func fd) ∧ wpAny (model cx.prog cx.w) A (call (.ref a) vs) Q E s) (fun e => ckEs_nil (e ▸ hes)) R (y H ρ s R p) ?_ ?_) ?_
  · intro ms vs H1 ρ1 s1 _ F1 R1 vrs
    exact SimK.andK ⟨R1.base _ _ ho, hd⟩ (hΦ a ms vs ha H1 ρ1 s1 R1 ⟨vrs, (Amb.frames cx l).st _ _ _ _ p.2 F1⟩)
  · exact fun vs Q E Q' E' s h k1 k2 => ⟨h.1, wpAny_mono h.2 k1 k2⟩
  · intro Q E h
    refine wpAny_Call_ofName (wp_glob R p.1.st hg ng nb (.inl hx) ?_)
    rw [plainArgs_trees pos (ckEs_plain hes)]
    exact Calls.callWith_function (o := o) (fd := fd) (wpAny_mono h (fun b s₁ h₁ => by rw [h₁.1]; exact h₁.2) fun _ _ q => q)
theorem zip_lookup_get {α : Type} : ∀ {ns : List Str} {vs : List α} {i : Nat} {y : Str} {v : α}, ns.Nodup → ns[i]? = some y → vs[i]? = some v → (ns.zip vs).lookup y = some v
  | [], _, _, _, _, _, h, _ => by simp at h
  | _ :: _, [], _, _, _, _, _, h => by simp at h
  | n :: ns, u :: vs, 0, y, v, _, h1, h2 => by simp at h1 h2; subst h1 h2; simp [List.zip_cons_cons]
  | n :: ns, u :: vs, i + 1, y, v, nd, h1, h2 => by
    simp at h1 h2
    have ne : (y == n) = false := by
      have : y ∈ ns := List.mem_of_getElem? h1
      simpa using fun e : y = n => (List.nodup_cons.mp nd).1 (e ▸ this)
    rw [List.zip_cons_cons, List.lookup_cons, ne]
    exact zip_lookup_get (List.nodup_cons.mp nd).2 h1 h2
theorem filterMap_zip : ∀ {ns : List Str} {vs : List Value}, ns.Nodup → vs.length = ns.length → (ns.filterMap fun n => ((ns.zip vs).lookup n).map (n, ·)) = ns.zip vs := by
  have gen : ∀ (ns : List Str) (vs : List Value) (look : Str → Option Value), vs.length = ns.length → (∀ (i : Nat) (y : Str) (v : Value), ns[i]? = some y → vs[i]? = some v → look y = some v) → (ns.filterMap fun n => (look n).map (n, ·)) = ns.zip vs := by
    intro ns
    induction ns with
    | nil => intro vs look _ _; rfl
    | cons n ns ih =>
      intro vs look hl k
      cases vs with
      | nil => simp at hl
      | cons v vs =>
        have e := k 0 n v (by simp) (by simp)
        rw [List.filterMap_cons, e]
        simp only [Option.map_some, List.zip_cons_cons]
        rw [ih vs look (by simpa using hl) fun i y u h1 h2 => k (i + 1) y u (by simpa using h1) (by simpa using h2)]
  intro ns vs nd hl
  exact gen ns vs _ hl fun i y v h1 h2 => zip_lookup_get nd h1 h2
theorem ite_not {α : Type} {c : Prop} [Decidable c] {x y r : α} (h : ¬ c) (k : y = r) : (if c then x else y) = r := (if_neg h).trans k
theorem bindArgs_plain {fd : FuncData} {vals : List Value} {names : List Str} (h1 : fd.params.posonlyargs = []) (h2 : fd.params.args.map (·.arg) = names) (h3 : fd.params.vararg = none) (h4 : fd.params.kwonlyargs = []) (h5 : fd.params.kwarg = none) (h6 : fd.defaults = .none)
    (nd : names.Nodup) (hl : vals.length = names.length) : bindArgs fd ⟨vals, []⟩ = pure (names.zip vals) := by
  have hmiss : ∀ k : Nat, ((names.take k).filter fun n => ((names.zip vals).lookup n).isNone) = [] := by
    intro k
    rw [List.filter_eq_nil_iff]
    intro n hn
    obtain ⟨i, hi⟩ := List.mem_iff_getElem?.mp (List.mem_of_mem_take hn)
    have lt : i < vals.length := by rw [hl]; exact (List.getElem?_eq_some_iff.mp hi).1
    rw [zip_lookup_get nd hi (List.getElem?_eq_getElem lt)]
    simp
  have hf := filterMap_zip nd hl
  obtain ⟨_, _, ⟨po, ar, va, kw, kd, ka, de⟩, _, _, _, _, df, _⟩ := fd
  cases h1; cases h3; cases h4; cases h5; cases h6
  subst h2
  refine ite_not (fun w => ?_) ?_
  · rw [Bool.and_eq_true] at w
    exact absurd (of_decide_eq_true w.1) (by rw [hl]; exact Nat.lt_irrefl _)
  refine ite_not (fun w => ?_) ?_
  · have e := hmiss ((List.map (·.arg) ar).length - (List.drop (0 - (List.map (·.arg) ar).length) ([] : List Value)).length)
    exact Bool.false_ne_true ((congrArg (fun l => !List.isEmpty l) e).symm.trans w)
  have z : ∀ (X : List Str) (n : Nat), X.zip (List.drop n ([] : List Value)) = [] := fun X n => by rw [List.drop_nil, List.zip_nil_right]
  refine Eq.trans (congrArg (fun (l : List (Str × Value)) => Bind.bind (forIn l _ _) _) (z (List.drop _ (List.map (·.arg) ar)) _)) ?_
  refine Eq.trans ?_ (congrArg pure hf)
  exact congrArg (fun l => (pure (List.filterMap (fun n => Option.map (fun x => (n, x)) (List.lookup n (List.zip (List.map (fun x => x.arg) ar) vals))) l) : Sem (List (Str × Value)))) (List.append_nil _)
set_option tactic.hygienic true in
theorem cells_has : ∀ {names : List (Str × NameKind)} {n : Nat} {acc : List (Str × Addr)} {y : Str}, ((y, NameKind.cell) ∈ names ∨ (acc.lookup y).isSome = true) → ((cellsFrom n names acc).lookup y).isSome = true
  | [], _, _, _, h => by
    rcases h with h | h
    · cases h
    · exact h
  | (z, k) :: r, n, acc, y, h => by
    unfold cellsFrom
    split
    · rename_i hk
      refine cells_has ?_
      rcases h with h | h
      · rcases List.mem_cons.mp h with e | h
        · cases e; right; simp
        · exact .inl h
      · right
        rw [List.lookup_cons]
        split
        · rfl
        · exact h
    · rename_i hk
      refine cells_has ?_
      rcases h with h | h
      · rcases List.mem_cons.mp h with e | h
        · cases e; simp at hk
        · exact .inl h
      · exact .inr h
theorem bindL_get {kd : Str → Option NameKind} : ∀ {binds : List (Str × Value)} {m : Str → Option Value} {y : Str} {v : Value}, (binds.map (·.1)).Nodup → (y, v) ∈ binds → kd y = some .local → bindL kd binds m y = some v := by
  have keep : ∀ (binds : List (Str × Value)) (m : Str → Option Value) (y : Str), y ∉ binds.map (·.1) → bindL kd binds m y = m y := by
    intro binds
    induction binds with
    | nil => intro m y _; rfl
    | cons b r ih =>
      intro m y hy
      obtain ⟨n, v⟩ := b
      simp only [List.map_cons, List.mem_cons, not_or] at hy
      unfold bindL
      rw [ih _ _ hy.2]
      split
      · simp [hy.1]
      · rfl
  intro binds
  induction binds with
  | nil => intro m y v _ h _; cases h
  | cons b r ih =>
    intro m y v nd h hk
    obtain ⟨n, u⟩ := b
    rw [List.map_cons, List.nodup_cons] at nd
    unfold bindL
    rcases List.mem_cons.mp h with e | h
    · cases e
      rw [keep _ _ _ nd.1, if_pos hk]
      simp
    · exact ih nd.2 h hk
theorem bindC_get {kd : Str → Option NameKind} : ∀ {binds : List (Str × Value)} {m : Str → Option Value} {y : Str} {v : Value}, (binds.map (·.1)).Nodup → (y, v) ∈ binds → kd y ≠ some .local → bindC kd binds m y = some v := by
  have keep : ∀ (binds : List (Str × Value)) (m : Str → Option Value) (y : Str), y ∉ binds.map (·.1) → bindC kd binds m y = m y := by
    intro binds
    induction binds with
    | nil => intro m y _; rfl
    | cons b r ih =>
      intro m y hy
      obtain ⟨n, v⟩ := b
      simp only [List.map_cons, List.mem_cons, not_or] at hy
      unfold bindC
      rw [ih _ _ hy.2]
      split
      · rfl
      · simp [hy.1]
  intro binds
  induction binds with
  | nil => intro m y v _ h _; cases h
  | cons b r ih =>
    intro m y v nd h hk
    obtain ⟨n, u⟩ := b
    rw [List.map_cons, List.nodup_cons] at nd
    unfold bindC
    rcases List.mem_cons.mp h with e | h
    · cases e
      rw [keep _ _ _ nd.1, if_neg hk]
      simp
    · exact ih nd.2 h hk
noncomputable def BodyOk (cx : Cx) (N : Names) (Φ : Funs) (d : Nat) : Prop :=
  ∀ (body : MSs) (stmts : List Stmt) (env : Env) (sc : Scope) (ns : List (Option Str)) (A : Around) (l : List Env), ckSs N sc ns body stmts = true → (∀ (i j : Nat) (y : Str), ns[i]? = some (some y) → ns[j]? = some (some y) → i = j) → Room A d → A.frames = some (env :: l) →
    env.frame = some env.locals → SimS cx A (env :: l) env sc ns (execs stmts env) (execSs cx.T Φ body)
theorem nodupS_inj : ∀ {ns : List (Option Str)}, nodupS ns = true → ∀ (i j : Nat) (y : Str), ns[i]? = some (some y) → ns[j]? = some (some y) → i = j
  | [], _, i, _, _, h, _ => by simp at h
  | none :: r, nd, i, j, y, h1, h2 => by
    cases i with
    | zero => simp at h1
    | succ i => cases j with
      | zero => simp at h2
      | succ j => simp at h1 h2; rw [nodupS_inj (by simpa [nodupS] using nd) i j y h1 h2]
  | some x :: r, nd, i, j, y, h1, h2 => by
    simp only [nodupS, Bool.and_eq_true, Bool.not_eq_true', List.contains_eq_mem, decide_eq_false_iff_not] at nd
    cases i with
    | zero =>
      cases j with
      | zero => rfl
      | succ j =>
        simp at h1 h2
        subst h1
        exact absurd (List.mem_of_getElem? h2) nd.1
    | succ i =>
      cases j with
      | zero =>
        simp at h1 h2
        subst h2
        exact absurd (List.mem_of_getElem? h1) nd.1
      | succ j =>
        simp at h1 h2
        rw [nodupS_inj nd.2 i j y h1 h2]
theorem nodup_of_inj {ns : List Str} (h : ∀ (i j : Nat) (y : Str), (ns.map some)[i]? = some (some y) → (ns.map some)[j]? = some (some y) → i = j) : ns.Nodup := by
  refine List.pairwise_iff_getElem.mpr fun i j hi hj lt e => ?_
  have := h i j ns[i] (by rw [List.getElem?_map, List.getElem?_eq_getElem hi]; rfl) (by rw [List.getElem?_map, List.getElem?_eq_getElem hj, e]; rfl)
  omega
theorem ckF_parts {f : MFun} {names : List Str} {params : Arguments} {body : List Stmt} {sc : Scope} (h : ckF N f names params body sc = true) :
    f.arity + f.nvars = names.length ∧ names.take f.arity = params.args.map (·.arg) ∧ params.posonlyargs = [] ∧ params.vararg = none ∧ params.kwonlyargs = [] ∧ params.kwarg = none ∧ nodupS (names.map some) = true ∧
      sc.isCoroutine = false ∧ sc.isGenerator = false ∧ sc.kind = .function ∧ ckSs N sc (names.map some) f.body body = true ∧
      (∀ p ∈ sc.names, p.2 = .cell → sc.names.lookup p.1 = some .cell) ∧ (∀ p ∈ sc.names, p.2 ≠ .free) ∧ (∀ y ∈ names.take f.arity, sc.names.lookup y = some .local ∨ sc.names.lookup y = some .cell) := by
  have h2 := an2 h
  have h3 := an2 h2
  have h4 := an2 h3
  have h5 := an2 h4
  have h6 := an2 h5
  have h7 := an2 h6
  have h8 := an2 h7
  have h9 := an2 h8
  have h10 := an2 h9
  have h11 := an2 h10
  have h12 := an2 h11
  exact ⟨of_decide_eq_true (an1 h), of_decide_eq_true (an1 h2), List.isEmpty_iff.mp (an1 h3), Option.isNone_iff_eq_none.mp (an1 h4), List.isEmpty_iff.mp (an1 h5), Option.isNone_iff_eq_none.mp (an1 h6), an1 h7, not_not (an1 h8), not_not (an1 h9), of_decide_eq_true (an1 h10), an1 h11,
    fun p hp hc => (of_decide_eq_true (an1 (List.all_eq_true.mp (an1 h12) p hp))).trans (congrArg some hc), fun p hp => of_decide_eq_false (not_not (an2 (List.all_eq_true.mp (an1 h12) p hp))), fun y hy => or_of (List.all_eq_true.mp (an2 h12) y hy)⟩
theorem Room.deeper {d : Nat} (r : RoomF A (d + 1)) (env : Env) : Room (A.deeper env) d := ⟨r.hh, by have := r.depth; show A.depth + 1 + _ + _ < _; omega, by have := r.units; show A.units + 3 + _ + _ < _; omega⟩
theorem call_step (B : Base cx N) {k : Nat} {a : Addr} {args : List Val} {vals : List Value} (hk : cx.fns[k]? = some a) (room : RoomQ A (d + 1)) (hfr : A.frames = some l)
    (hb : ∀ (f : MFun) (stmts : List Stmt) (env : Env) (sc : Scope) (ns : List (Option Str)), cx.T.funs[k]? = some f → ckSs N sc ns f.body stmts = true → (∀ (i j : Nat) (y : Str), ns[i]? = some (some y) → ns[j]? = some (some y) → i = j) → (A.deeper env).frames = some (env :: l) → env.frame = some env.locals →
      SimS cx (A.deeper env) (env :: l) env sc ns (execs stmts env) (execSs cx.T (callF cx.T d) f.body)) :
    Sim cx A ((Amb.vrs cx args vals).and (Amb.frames cx l)) (call (.ref a) vals) (callF cx.T (d + 1) k args) (Amb.vr cx) := by
  intro H ρ s R ⟨vrs, fok⟩
  rw [callF_succ]
  cases hf : cx.T.funs[k]? with
  | none => trivial
  | some f =>
    show SimAt cx A (if args.length = f.arity then resOf (execSs cx.T (callF cx.T d) f.body (args.map some ++ List.replicate f.nvars none) H) else .bad) _ _ ρ s
    by_cases hl : args.length = f.arity
    · rw [if_pos hl]
      refine hideG fun G kG => ?_
      obtain ⟨o, fd, body, names, ho, hoc, hdata, hcd, hbody, hclo, hglob, hblt, hdf, hkd, hck⟩ := (B.fns k a f hk hf).is
      obtain ⟨c1, c2, c3, c4, c5, c6, c7, c8, c9, c10, c11, c12, c13, c14⟩ := ckF_parts hck
      refine kG ?_
      have nd := nodupS_inj c7
      have nds : names.Nodup := nodup_of_inj nd
      have ndt : (names.take f.arity).Nodup := nds.sublist (List.take_sublist _ _)
      have vlen : vals.length = (names.take f.arity).length := by rw [List.length_take, ← vrs.length, hl]; omega
      have hbind : bindArgs fd ⟨vals, []⟩ = pure ((names.take f.arity).zip vals) := bindArgs_plain c3 c2.symm c4 c5 c6 hdf ndt vlen
      have hkind : ∀ x ∈ (names.take f.arity).zip vals, fd.scope.names.lookup x.1 = some .local ∨ (fd.scope.names.lookup x.1 = some .cell ∧ ((cellsFrom (s.heap.objs.size + 1) fd.scope.names []).lookup x.1).isSome = true) := by
        intro x hx
        rcases c14 x.1 (List.of_mem_zip hx).1 with h | h
        · exact .inl h
        · exact .inr ⟨h, cells_has (.inl (mem_of_lookup h))⟩
      generalize henv : callEnvC fd s.heap.objs.size a = env
      have eloc : env.locals = s.heap.objs.size := by rw [← henv]; rfl
      have escope : env.scope = fd.scope := by rw [← henv]; rfl
      have ecells : env.cells = cellsFrom (s.heap.objs.size + 1) fd.scope.names [] := by rw [← henv]; rfl
      have egl : env.globals = mainGlobals := by rw [← henv]; exact hglob
      have ebl : env.builtins = builtinsNs := by rw [← henv]; exact hblt
      have efr : env.frame = some env.locals := by rw [← henv]; rfl
      have ekind : ∀ y, env.kindOf y = fd.scope.names.lookup y := fun y => by unfold Env.kindOf; rw [escope]
      -- the body
      have main : ∀ s₁, InCallC s env.locals (bindL env.kindOf ((names.take f.arity).zip vals) fun _ => none) env.cells (bindC env.kindOf ((names.take f.arity).zip vals) fun _ => none) s₁ →
          Full ρ s.heap ρ s₁.heap ∧ SimSAt cx (A.deeper env) env fd.scope (names.map some) (execSs cx.T (callF cx.T d) f.body (args.map some ++ List.replicate f.nvars none) H) (execs body env) ρ s₁ := by
        intro s₁ x
        have hkeep := x.toInCall.keep
        have F0 : Full ρ s.heap ρ s₁.heap := Full.more hkeep
        obtain ⟨h₁, tk, e1⟩ := x.toInCall.same
        have R1 : Rel cx H ρ s₁ := by rw [e1] at hkeep ⊢; exact R.more hkeep
        have locfresh : s.heap.get? env.locals = none := by rw [eloc]; exact fresh_none _
        have lvB : Live cx.h₀ s.heap := fun b o e => ⟨o, R.base b o e⟩
        have cfresh : ∀ y c, env.cells.lookup y = some c → s.heap.get? c = none := fun y c hc => fresh_le (by have := x.above y c (mem_of_lookup hc); rw [eloc] at this; exact Nat.le_of_lt this)
        have cellFacts : ∀ y c, env.cells.lookup y = some c → s₁.heap.IsCell c (bindC env.kindOf ((names.take f.arity).zip vals) (fun _ => none) y) := fun y c hc => x.cell y c hc
        have eok : EnvOk cx env fd.scope (names.map some) (args.map some ++ List.replicate f.nvars none) ρ s₁.heap := by
          refine ⟨⟨by rw [escope]; exact c10, egl, ebl, fun y kd hy => ?_, ⟨_, x.toInCall.ns⟩, R.fresh_not locfresh, lvB.none locfresh, fun y c hc => ⟨⟨_, cellFacts y c hc⟩, R.fresh_not (cfresh y c hc), lvB.none (cfresh y c hc)⟩, fun y hy => ?_, fun y z c hy hz => name_of_addr x.apart (mem_of_lookup hy) (mem_of_lookup hz)⟩, by rw [List.length_append, List.length_map, List.length_replicate, List.length_map, hl]; exact c1, ?_⟩
          · rw [ekind, hy]
            cases kd <;> first | rfl | exact .inl rfl | trivial
          · rcases hy with hy | hy
            · rw [ecells]
              exact Option.isSome_iff_exists.mp (cells_has (.inl (mem_of_lookup hy)))
            · exact absurd rfl (c13 _ (mem_of_lookup hy))
          · intro i y mv hi hm
            have hi' : names[i]? = some y := by rw [List.getElem?_map] at hi; cases q : names[i]? <;> rw [q] at hi <;> simp at hi; rw [hi]
            by_cases lt : i < f.arity
            · have ha : args[i]? = some mv := by
                rw [List.getElem?_append_left (by rw [List.length_map, hl]; exact lt), List.getElem?_map] at hm
                cases q : args[i]? <;> rw [q] at hm <;> simp at hm
                rw [hm]
              obtain ⟨v, ev, vr⟩ := vrs.get ha
              have et : (names.take f.arity)[i]? = some y := by rw [List.getElem?_take, if_pos lt]; exact hi'
              have mem : (y, v) ∈ (names.take f.arity).zip vals := by
                refine List.mem_iff_getElem?.mpr ⟨i, ?_⟩
                rw [List.getElem?_zip_eq_some]; exact ⟨et, ev⟩
              have ndz : (((names.take f.arity).zip vals).map (·.1)).Nodup := by
                rw [List.map_fst_zip (by rw [vlen]; exact Nat.le_refl _)]; exact ndt
              refine ⟨v, ?_, vr.step F0.step⟩
              rcases c14 y (List.mem_of_getElem? et) with h | h
              · exact .inl ⟨by rw [ekind]; exact h, _, x.toInCall.ns, bindL_get ndz mem (by rw [ekind]; exact h)⟩
              · obtain ⟨c, hc⟩ := Option.isSome_iff_exists.mp (cells_has (n := s.heap.objs.size + 1) (acc := []) (.inl (mem_of_lookup h)))
                rw [← ecells] at hc
                have := cellFacts y c hc
                rw [bindC_get ndz mem (by rw [ekind, h]; simp)] at this
                exact .inr ⟨.inl (by rw [ekind]; exact h), c, hc, this⟩
            · exfalso
              rw [List.getElem?_append_right (by rw [List.length_map, hl]; omega), List.getElem?_replicate] at hm
              split at hm <;> simp at hm
        refine ⟨F0, hb f body env fd.scope (names.map some) hf c11 nd (by show A.frames.map (env :: ·) = _; rw [hfr]; rfl) efr _ H ρ s₁ R1 eok ?_⟩
        · intro e he
          rcases List.mem_cons.mp he with rfl | he
          · refine hideG fun G kG => ?_
            obtain ⟨o', es, ep, eo', d', _⟩ := x.toInCall.ns
            refine kG ?_
            exact ⟨by rw [escope, c10]; simp, e.locals, o', efr, lvB.none locfresh, eo', ⟨_, _, d'⟩, R.fresh_not locfresh⟩
          · exact (fok.full F0) e he
      -- what stands of the caller's heap
      have back : ∀ {s₁ ρ' h'}, Full ρ s.heap ρ s₁ → FullS env ρ s₁ ρ' h' → (∀ y c, env.cells.lookup y = some c → s.heap.get? c = none) → Full ρ s.heap ρ' h' := by
        intro s₁ ρ' h' F0 F1 cf
        refine ⟨?_, fun b ob e n => ?_, F0.live.trans F1.live⟩
        · exact F0.grow.trans F1.grow F0.live
        · refine hideG fun G kG => ?_
          obtain ⟨o1, e1, u1⟩ := F0.keep b ob e n
          obtain ⟨o2, e2, u2⟩ := F1.keep b o1 e1 n (fun q => by rw [q, eloc, fresh_none] at e; exact nomatch e) (fun y q => by rw [cf y b q] at e; cases e)
          refine kG ?_
          exact ⟨o2, e2, u1.trans u2⟩
      have cf : ∀ y c, env.cells.lookup y = some c → s.heap.get? c = none := fun y c hc => by
        refine fresh_le ?_
        have ok := cellsFrom_ok fd.scope.names (s.heap.push { cls := .type "frame", data := .dict #[] }) (s.heap.objs.size + 1) [] ⟨fun _ _ hm => (nomatch hm), List.Pairwise.nil⟩ (by rw [Heap.size_push]; exact Nat.le_refl _)
        rw [Heap.size_push] at ok
        rw [ecells] at hc
        exact Nat.le_of_succ_le (ok.empty y c (mem_of_lookup hc)).2
      have hlim : s.heap.NoLimit := B.lim.keeps R.base
      have hcd' : s.heap.CodeRec fd.code fd.qualname := hcd.keeps R.base
      generalize hres : execSs cx.T (callF cx.T d) f.body (args.map some ++ List.replicate f.nvars none) H = res at main
      cases res with
      | bad => trivial
      | next Γ' H' =>
        refine wpAny_call (codeAny_call_cells (by have := room.depth; omega) (R.base _ _ ho) hdata hlim hcd' hbody hbind hclo hkind (fun s₁ x => ?_) c8 c9 c10)
        rw [henv] at x ⊢
        obtain ⟨F0, sim⟩ := main s₁ x
        exact wpAny_mono sim (fun fl s' ⟨h1, ρ', F1, R', _⟩ => by refine Eq.symm h1 ▸ ?_; exact ⟨ρ', back F0 F1 cf, R', .none⟩) fun _ _ q => q.elim
      | ret v H' =>
        refine wpAny_call (codeAny_call_cells (by have := room.depth; omega) (R.base _ _ ho) hdata hlim hcd' hbody hbind hclo hkind (fun s₁ x => ?_) c8 c9 c10)
        rw [henv] at x ⊢
        obtain ⟨F0, sim⟩ := main s₁ x
        exact wpAny_mono sim (fun fl s' ⟨v', ρ', h1, F1, R', vr⟩ => by refine Eq.symm h1 ▸ ?_; exact ⟨ρ', back F0 F1 cf, R', vr.1⟩) fun _ _ q => q.elim
      | exc c Γ' H' =>
        refine wpAny_call (codeAny_call_cells (by have := room.depth; omega) (R.base _ _ ho) hdata hlim hcd' hbody hbind hclo hkind (fun s₁ x => ?_) c8 c9 c10)
        rw [henv] at x ⊢
        obtain ⟨F0, sim⟩ := main s₁ x
        refine wpAny_mono sim (fun _ _ q => q.elim) fun e s' ⟨ρ', F1, R', e0, fl⟩ => ?_
        have w : FramesOk cx (env :: l) ρ' s'.heap := fun en he => by
          rcases List.mem_cons.mp he with rfl | he
          · refine hideG fun G kG => ?_
            obtain ⟨m, o', es, ep, eo', d', _⟩ := e0.st.loc
            refine kG ?_
            exact ⟨by rw [e0.st.fn]; simp, en.locals, o', efr, e0.st.locB, eo', ⟨_, _, d'⟩, e0.st.locN⟩
          · exact (fok.full (back F0 F1 cf)) en he
        exact wp_leaving (by show A.frames.map (env :: ·) = _; rw [hfr]; rfl) efr w R' (fun b o e => F0.live b o (R.base b o e)) F1.live fl fun h' o' fl' => ⟨ρ', back F0 (o'.fullS F1) cf, o'.rel R', fl'.to.older F0.live⟩
    · rw [if_neg hl]; trivial
theorem FunsOk.step (B : Base cx N) (hb : BodyOk cx N (callF cx.T d) d) : FunsOk cx (callF cx.T (d + 1)) (d + 1) :=
  fun k a args vals A l hk room hfr => call_step B hk room.q hfr fun f stmts env sc ns _ h1 h2 h3 h4 => hb f.body stmts env sc ns (A.deeper env) l h1 h2 (Room.deeper room env) h3 h4
end
end Mine
-- part MIter
namespace Mine
open PySem
inductive ItOk (cx : Cx) (xs : List Val) (I : Addr) (i : Nat) (ρ : Rho) (h : Heap) : Option Nat → Prop
  | list {l : Nat} {p : Addr × Addr} : ρ[l]? = some p → h.IsListIter I p.1 i → ItOk cx xs I i ρ h (some l)
  | tup {a : Addr} {vs : List Value} {n : Nat} : h.get? a = some (tupO vs n) → ¬ Owned ρ a → VRs cx ρ h xs vs → h.IsTupleIter I a i → ItOk cx xs I i ρ h none
  | script {a : Addr} {vs : List Value} {n : Nat} : cx.h₀.get? a = some (listO vs n) → VRs cx ρ h xs vs → h.IsListIter I a i → ItOk cx xs I i ρ h none
  | rng {n : Int} : xs = (List.range n.toNat).map (fun (k : Nat) => Val.int (k : Int)) → IsRangeIter h I (i : Nat) ((n.toNat : Int) - (i : Nat)) 1 → ItOk cx xs I i ρ h none
  | str {x : Str} {t : Tok} {ty : String} : xs = x.cps.toList.map (fun c => Val.str ⟨#[c]⟩) → (ty = "str_ascii_iterator" ∨ ty = "str_iterator") → h.IsStrIter I ty x t i → ItOk cx xs I i ρ h none
noncomputable def IterO (o : Obj) : Prop := (∃ vs, o.data = .fields vs) ∧ ∃ n, o.cls = .type n ∧ n ≠ "range"
theorem IterO.not {o : Obj} (x : IterO o) : ¬ Fixed o ∧ ∀ C, ¬ IsExcO o C := by
  refine hideG fun G kG => ?_
  obtain ⟨⟨vs, d⟩, n, c, ne⟩ := x
  refine kG ?_
  refine ⟨fun f => ?_, fun C f => ?_⟩
  · rcases f with ⟨_, xs, k, f⟩ | ⟨f, _⟩
    · rw [d] at f; cases f
    · rw [c] at f; cases f; exact ne rfl
  · rw [f.1] at c; cases c
theorem IterO.notDict {o : Obj} (x : IterO o) (es : Array DictEntry) (n : Nat) : o.data ≠ .dict es n := by
  obtain ⟨⟨vs, d⟩, _⟩ := x
  rw [d]; exact fun q => nomatch q
theorem IterO.notCell {o : Obj} (x : IterO o) (v : Option Value) : o.data ≠ .cell v := by
  obtain ⟨⟨vs, d⟩, _⟩ := x
  rw [d]; exact fun q => nomatch q
theorem listO_not {vs : List Value} {n : Nat} : ¬ Fixed (listO vs n) ∧ ∀ C, ¬ IsExcO (listO vs n) C := by
  refine ⟨fun f => ?_, fun C f => by cases f.1⟩
  rcases f with ⟨f, _⟩ | ⟨f, _⟩
  · exact absurd (Value.type.inj f) (by decide)
  · exact absurd (Value.type.inj f) (by decide)
section
variable {cx : Cx} {A : Around} {xs : List Val} {I : Addr} {i : Nat} {ρ ρ' : Rho} {s : Shared} {H : Hp} {src : Option Nat}
theorem ItOk.step {h h' : Heap} (x : ItOk cx xs I i ρ h src) (st : Step ρ h ρ' h') (k : ∀ o, h.get? I = some o → h'.get? I = some o) : ItOk cx xs I i ρ' h' src := by
  cases x with
  | list hp hi => exact .list (st.get hp) (hi.at k)
  | tup e n r hi => exact .tup (st.keepT _ _ e (.inl ⟨rfl, _, _, rfl⟩) n).1 (st.keepT _ _ e (.inl ⟨rfl, _, _, rfl⟩) n).2 (r.step st) (hi.at k)
  | script e r hi => exact .script e (r.step st) (hi.at k)
  | rng e hi => exact .rng e (k _ hi)
  | str e ht hs => obtain ⟨o, e1, e2⟩ := hs; exact .str e ht ⟨o, k o e1, e2⟩
theorem ItOk.obj {h : Heap} (x : ItOk cx xs I i ρ h src) : ∃ o, h.get? I = some o ∧ IterO o := by
  cases x with
  | list hp hi => obtain ⟨o, e, c, d⟩ := hi; exact ⟨o, e, ⟨_, d⟩, _, c, by decide⟩
  | tup e n r hi => obtain ⟨o, e, c, d⟩ := hi; exact ⟨o, e, ⟨_, d⟩, _, c, by decide⟩
  | script e r hi => obtain ⟨o, e, c, d⟩ := hi; exact ⟨o, e, ⟨_, d⟩, _, c, by decide⟩
  | rng e hi => exact ⟨_, hi, ⟨_, rfl⟩, _, rfl, by decide⟩
  | str e ht hs => obtain ⟨o, e, c, d⟩ := hs; exact ⟨o, e, ⟨_, d⟩, _, c, by rcases ht with rfl | rfl <;> decide⟩
theorem iter_start {v : Val} {w : Value} (R : Rel cx H ρ s) (vr : VR cx ρ s.heap v w) (e : iterOf v H = some (xs, src)) {Q : Value → Shared → Prop} {E : Value → Shared → Prop}
    (k : ∀ o, (s.heap.push o).get? s.heap.objs.size = some o → ItOk cx xs s.heap.objs.size 0 ρ (s.heap.push o) src → Q (.ref s.heap.objs.size) { s with heap := s.heap.push o }) :
    wpAny (model cx.prog cx.w) A (pyIter w) Q E s := by
  have P := fun o => Full.push ρ s.heap o
  cases vr with
  | @loc l p hp =>
    · obtain ⟨hl, e⟩ := iter_loc e
      refine hideG fun G kG => ?_
      obtain ⟨vs, n, _, g, r, z⟩ := R.listAt hl hp
      refine kG ?_
      subst e
      refine wpAny_pyIter_list (items := vs.toArray) ⟨_, g, rfl, n, rfl⟩ (k _ (Heap.get?_push_size _ rfl) (.list hp ⟨_, Heap.get?_push_size _ rfl, rfl, rfl⟩))
  | @tup a vs n ms g no z r =>
    cases e
    exact wpAny_pyIter_tuple (items := vs.toArray) ⟨_, g, rfl, n, rfl⟩ (k _ (Heap.get?_push_size _ rfl) (.tup (Heap.get?_push_of_some _ g) no (r.step (P _).step) ⟨_, Heap.get?_push_size _ rfl, rfl, rfl⟩))
  | @script a vs n ns g z r =>
    cases e
    exact wpAny_pyIter_list (items := vs.toArray) ⟨_, R.base _ _ g, rfl, n, rfl⟩ (k _ (Heap.get?_push_size _ rfl) (.script g (r.step (P _).step) ⟨_, Heap.get?_push_size _ rfl, rfl, rfl⟩))
  | @rng a n t u v g no z1 z2 =>
    cases e
    refine wpAny_pyIter_range g (small_one (by omega) (by omega) z1 z2) (k _ (Heap.get?_push_size _ rfl) (.rng rfl ?_))
    have e1 : Builtin.Range.rangeSize 0 n 1 = ((n.toNat : Nat) : Int) := by rw [rangeSize_one]; split <;> omega
    rw [e1]
    simpa using Heap.get?_push_size s.heap (o := { cls := .type "range_iterator", data := .fields #[rawInt 0, rawInt (n.toNat : Int), rawInt 1] }) rfl
  | str x t z =>
    cases e
    cases ha : x.cps.all (· < 128)
    · exact wpAny_pyIter_wide ha (k _ (Heap.get?_push_size _ rfl) (.str rfl (.inr rfl) ⟨_, Heap.get?_push_size _ rfl, rfl, rfl⟩))
    · exact wpAny_pyIter_ascii ha (k _ (Heap.get?_push_size _ rfl) (.str rfl (.inl rfl) ⟨_, Heap.get?_push_size _ rfl, rfl, rfl⟩))
  | _ => exact no_some e
theorem iter_item (R : Rel cx H ρ s) (x : ItOk cx xs I i ρ s.heap src) (ck : chk src xs H = true) {m : Val} (hm : xs[i]? = some m) {Q : Option Value → Shared → Prop} {E : Value → Shared → Prop}
    (k : ∀ v h' tk, Heap.SameBut I s.heap h' → (∃ o, h'.get? I = some o) → (∀ st : Step ρ s.heap ρ h', VR cx ρ h' m v ∧ ItOk cx xs I (i + 1) ρ h' src) → Q (some v) { s with heap := h', toks := tk }) :
    wpAny (model cx.prog cx.w) A (pyNext (.ref I)) Q E s := by
  cases x with
  | @list l p hp hi =>
    · refine hideG fun G kG => ?_
      obtain ⟨vs, n, _, g, r, z⟩ := R.listAt (chk_el ck) hp
      obtain ⟨v, ev, vr⟩ := r.get hm
      refine kG ?_
      exact wpAny_pyNext_list_item (items := vs.toArray) hi ⟨_, g, rfl, n, rfl⟩ (by simpa using ev) fun h' hi' hs => k v h' s.toks hs (by obtain ⟨o, e, _⟩ := hi'; exact ⟨o, e⟩) fun st => ⟨vr.step st, .list hp hi'⟩
  | @tup a vs n g no r hi =>
    obtain ⟨v, ev, vr⟩ := r.get hm
    refine wpAny_pyNext_tuple_item (items := vs.toArray) hi ⟨_, g, rfl, n, rfl⟩ (by simpa using ev) fun h' hi' hs => k v h' s.toks hs (by obtain ⟨o, e, _⟩ := hi'; exact ⟨o, e⟩) fun st => ⟨vr.step st, .tup (st.keepT _ _ g (.inl ⟨rfl, _, _, rfl⟩) no).1 no (r.step st) hi'⟩
  | @script a vs n g r hi =>
    obtain ⟨v, ev, vr⟩ := r.get hm
    exact wpAny_pyNext_list_item (items := vs.toArray) hi ⟨_, R.base _ _ g, rfl, n, rfl⟩ (by simpa using ev) fun h' hi' hs => k v h' s.toks hs (by obtain ⟨o, e, _⟩ := hi'; exact ⟨o, e⟩) fun st => ⟨vr.step st, .script g (r.step st) hi'⟩
  | @rng n e hi =>
    subst e
    have lt : i < n.toNat := by
      have := (List.getElem?_eq_some_iff.mp hm).1
      simpa using this
    have hm' : m = .int (i : Int) := by
      rw [List.getElem?_map, List.getElem?_range lt] at hm
      simpa using hm.symm
    subst hm'
    refine wpAny_pyNext_range_item hi (by omega) fun h' hi' hs => k _ h' _ hs ⟨_, hi'⟩ fun st => ⟨.int _ _, .rng rfl ?_⟩
    have e1 : ((i + 1 : Nat) : Int) = (i : Int) + 1 := by omega
    have e2 : ((n.toNat : Int) - ((i + 1 : Nat) : Int)) = (n.toNat : Int) - (i : Int) - 1 := by omega
    rw [e1, ← e1, e2]
    exact hi'
  | @str x t ty e ht hs =>
    subst e
    rw [List.getElem?_map] at hm
    cases hc : x.cps.toList[i]? with
    | none => rw [hc] at hm; exact no_some hm
    | some c =>
      rw [hc] at hm
      simp at hm
      subst hm
      have hc' : x.cps[i]? = some c := by simpa using hc
      have z1 : (⟨#[c]⟩ : Str).length ≤ sizeLine := by show 1 ≤ sizeLine; decide
      rcases ht with rfl | rfl
      · exact wpAny_pyNext_ascii_item hs hc' fun h' hi' hsb => k _ h' _ hsb (by obtain ⟨o, e, _⟩ := hi'; exact ⟨o, e⟩) fun st => ⟨.str _ _ z1, .str rfl (.inl rfl) hi'⟩
      · exact wpAny_pyNext_wide_item hs hc' fun h' hi' hsb => k _ h' _ hsb (by obtain ⟨o, e, _⟩ := hi'; exact ⟨o, e⟩) fun st => ⟨.str _ _ z1, .str rfl (.inr rfl) hi'⟩
theorem iter_end (hh : A.handled = none) (R : Rel cx H ρ s) (x : ItOk cx xs I i ρ s.heap src) (ck : chk src xs H = true) (hm : xs[i]? = none) {Q : Option Value → Shared → Prop} {E : Value → Shared → Prop}
    (k : ∀ h' tk, Heap.ExtBut I s.heap h' → Q none { s with heap := h', toks := tk }) : wpAny (model cx.prog cx.w) A (pyNext (.ref I)) Q E s := by
  cases x with
  | @list l p hp hi =>
    · refine hideG fun G kG => ?_
      obtain ⟨vs, n, _, g, r, z⟩ := R.listAt (chk_el ck) hp
      refine kG ?_
      have len := r.length
      refine wpAny_pyNext_list_end (items := vs.toArray) hh hi ⟨_, g, rfl, n, rfl⟩ ?_ fun h' he => k h' s.toks he
      rw [List.getElem?_eq_none_iff] at hm
      simp; omega
  | @tup a vs n g no r hi =>
    have len := r.length
    refine wpAny_pyNext_tuple_end (items := vs.toArray) hh hi ⟨_, g, rfl, n, rfl⟩ ?_ fun h' he => k h' s.toks he
    rw [List.getElem?_eq_none_iff] at hm
    simp; omega
  | @script a vs n g r hi =>
    have len := r.length
    refine wpAny_pyNext_list_end (items := vs.toArray) hh hi ⟨_, R.base _ _ g, rfl, n, rfl⟩ ?_ fun h' he => k h' s.toks he
    rw [List.getElem?_eq_none_iff] at hm
    simp; omega
  | @rng n e hi =>
    subst e
    rw [List.getElem?_eq_none_iff] at hm
    simp at hm
    exact wpAny_pyNext_range_end hh hi (by omega) fun h' he => k h' s.toks he
  | @str x t ty e ht hs =>
    subst e
    rw [List.getElem?_eq_none_iff] at hm
    simp at hm
    have hn : x.cps[i]? = none := by simp; omega
    rcases ht with rfl | rfl
    · exact wpAny_pyNext_ascii_end hh hs hn fun h' he => k h' s.toks he
    · exact wpAny_pyNext_wide_end hh hs hn fun h' he => k h' s.toks he
end
end Mine
-- part MBool
namespace Mine
open PySem
theorem bnd_assoc {α β γ : Type} (m : M α) (f : α → M β) (g : β → M γ) : (m.bnd f).bnd g = m.bnd fun x => (f x).bnd g := by
  funext H
  unfold M.bnd
  cases m H <;> rfl
section
variable {α β : Type} {cx : Cx} {A : Around} {P : Amb} {t : Sem α} {m : M β} {V : β → α → Amb}
theorem Sim.relse {vs keep : List Value} {k : Unit → Sem α} (x : Sim cx A P (k ()) m V) : Sim cx A P (release vs keep >>= k) m V := x.pre fun _ _ _ h => wpAny_bind (wpAny_release h)
theorem Sim.oper {t : Sem Value} {V : β → Value → Amb} {vs : List Value} (x : Sim cx A P t m V) : Sim cx A P (operate vs t) m V := x.pre fun _ _ _ h => fun Γ p hΓ => by
  rw [Sem.wp_operate]; exact h Γ p hΓ
theorem Sim.of_eq {t' : Sem α} (e : t' = t) (x : Sim cx A P t m V) : Sim cx A P t' m V := e ▸ x
theorem Sim.of_m {m' : M β} (e : m' = m) (x : Sim cx A P t m V) : Sim cx A P t m' V := e ▸ x
noncomputable abbrev BV : Bool → Bool → Amb := fun b b' => Amb.prop (b' = b)
end
section
variable {cx : Cx} {A : Around} {P : Amb} {env : Env} {Φ : Funs} {Γ : Env'}
structure EOk (cx : Cx) (A : Around) (P : Amb) (Φ : Funs) (env : Env) (Γ : Env') (m : ME) (e : Expr) : Prop where
  val : Sim cx A P (eval e env) (evalE cx.T Φ m Γ) (Amb.vr cx)
  tru : Sim cx A P (isTrue e env (eval e env)) ((evalE cx.T Φ m Γ).bnd truth) BV
theorem sim_truthyA {a : Val} {v : Value} : Sim cx A (P.and (Amb.vr cx a v)) (truthy v) (truth a) BV := sim_truthy fun _ _ p => p.2
theorem EOk.of {m : ME} {e : Expr} (x : Sim cx A P (eval e env) (evalE cx.T Φ m Γ) (Amb.vr cx)) (h : isTrue e env (eval e env) = (do let v ← eval e env; standAt e.pos; holding [v] (truthy v))) : EOk cx A P Φ env Γ m e :=
  ⟨x, Sim.of_eq h (x.bind fun b a => Sim.stand (Sim.holding sim_truthyA))⟩
theorem Sim.and1 {α β : Type} {t : Sem α} {m : M β} {V : β → α → Amb} {Q : Amb} (x : Sim cx A P t m V) : Sim cx A (P.and Q) t m V := x.weak fun _ _ p => p.1
theorem eok_bin {op : BOp} {o : Operator} {a b : ME} {l r : Expr} {pos : Pos} (ho : opOk op o = true) (x : EOk cx A P Φ env Γ a l) (y : EOk cx A P Φ env Γ b r) : EOk cx A P Φ env Γ (.bin op a b) (.BinOp l o r pos) := by
  refine EOk.of ?_ rfl
  exact x.val.bind fun x1 v => (Sim.holding y.val.and1).bind fun y1 w => Sim.stand (Sim.oper (sim_bin ho (fun _ _ p => p.1.2) fun _ _ p => p.2))
theorem eok_neg {a : ME} {l : Expr} {pos : Pos} (x : EOk cx A P Φ env Γ a l) : EOk cx A P Φ env Γ (.neg a) (.UnaryOp .USub l pos) := by
  refine EOk.of ?_ rfl
  exact x.val.bind fun x1 v => Sim.stand (Sim.holding (sim_neg fun _ _ p => p.2))
theorem eok_not {a : ME} {l : Expr} {pos : Pos} (x : EOk cx A P Φ env Γ a l) : EOk cx A P Φ env Γ (.not a) (.UnaryOp .Not l pos) := by
  refine ⟨?_, ?_⟩
  · skip
    exact x.val.bind fun x1 v => Sim.stand (Sim.holding (sim_not fun _ _ p => p.2))
  · rw [arm_isTrue_UnaryOp, ev_not]
    refine Sim.of_m (m := ((evalE cx.T Φ a Γ).bnd truth).bnd fun b => M.ret (!b)) ?_ (x.tru.bind fun b b' => Sim.ret fun ρ h p => ?_)
    · rw [bnd_assoc, bnd_assoc]
      congr 1; funext x1
      rw [bnd_assoc]
      congr 1
    · have : b' = b := p.2
      show (!b') = !b
      rw [this]
theorem bnd_ret {α : Type} (m : M α) : (m.bnd fun b => M.ret b) = m := by
  funext H
  unfold M.bnd
  cases m H <;> rfl
noncomputable def EOks (cx : Cx) (A : Around) (P : Amb) (Φ : Funs) (env : Env) (Γ : Env') (op : BoolOp) (pos : Pos) (m : ME) (ys : List Expr) : Prop :=
  Sim cx A P (boolOp pos op (evalEach ys env)) (evalE cx.T Φ m Γ) (Amb.vr cx) ∧ Sim cx A P (allTrue op ys env) ((evalE cx.T Φ m Γ).bnd truth) BV
theorem EOks.one {op : BoolOp} {pos : Pos} {m : ME} {y : Expr} (x : EOk cx A P Φ env Γ m y) : EOks cx A P Φ env Γ op pos m [y] := by
  refine ⟨x.val, ?_⟩
  refine Sim.of_m (bnd_ret _).symm (x.tru.bind fun b b' => ?_)
  intro H ρ s R p
  have e : b' = b := p.2
  subst e
  cases op <;> cases b' <;> exact wpAny_pure ⟨ρ, Full.refl _ _, R, rfl⟩
theorem EOks.more {op : BoolOp} {pos : Pos} {m : ME} {y : Expr} {rest : List Expr} (x : EOk cx A P Φ env Γ m (.BoolOp op (y :: rest) pos)) : EOks cx A P Φ env Γ op pos m (y :: rest) := ⟨x.val, x.tru⟩
theorem sim_truthyV {a : Val} {v : Value} : Sim cx A (P.and (Amb.vr cx a v)) (truthy v) (truth a) (fun b b' => Amb.prop (b' = b ∧ v = .bool b)) := by
  intro H ρ s R p
  have x : VR cx ρ s.heap a v := p.2
  cases x with
  | bool b => exact simAt_pure R fun Q E k => wpAny_truthy_bool (k _ s.toks ⟨rfl, rfl⟩)
  | _ => trivial
set_option backward.match.sparseCases true in
theorem eok_and {a b : ME} {x y : Expr} {rest : List Expr} {pos : Pos} (hx : EOk cx A P Φ env Γ a x) (hy : EOks cx A P Φ env Γ .And pos b (y :: rest)) : EOk cx A P Φ env Γ (.and a b) (.BoolOp .And (x :: y :: rest) pos) := by
  refine ⟨?_, ?_⟩
  · skip
    refine hx.val.bind (f := fun v => do
      standAt pos
      let t ← holding [v] (truthy v)
      match BoolOp.And, t with
      | .And, false | .Or, true => pure v
      | _, _ => boolOp pos .And (evalEach (y :: rest) env)) fun x1 v => Sim.stand ((Sim.holding sim_truthyV).bind fun b b' => ?_)
    intro H ρ s R p
    obtain ⟨e1, e2⟩ : b' = b ∧ v = .bool b := p.2
    subst e1 e2
    cases b' with
    | true => exact hy.1 H ρ s R p.1.1
    | false => exact wpAny_pure ⟨ρ, Full.refl _ _, R, .bool _⟩
  · rw [arm_isTrue_BoolOp, arm_allTrue_cons, ev_and]
    refine Sim.of_m (m := ((evalE cx.T Φ a Γ).bnd truth).bnd fun t => match t with
      | true => (evalE cx.T Φ b Γ).bnd truth
      | false => M.ret false) ?_ (hx.tru.bind fun b b' => ?_)
    · rw [bnd_assoc, bnd_assoc]
      congr 1; funext x1
      rw [bnd_assoc]
      congr 1; funext t
      cases t <;> rfl
    · intro H ρ s R p
      have e : b' = b := p.2
      refine e ▸ ?_
      cases b' with
      | true => exact hy.2 H ρ s R p.1
      | false => exact wpAny_pure ⟨ρ, Full.refl _ _, R, rfl⟩
set_option backward.match.sparseCases true in
theorem eok_or {a b : ME} {x y : Expr} {rest : List Expr} {pos : Pos} (hx : EOk cx A P Φ env Γ a x) (hy : EOks cx A P Φ env Γ .Or pos b (y :: rest)) : EOk cx A P Φ env Γ (.or a b) (.BoolOp .Or (x :: y :: rest) pos) := by
  refine ⟨?_, ?_⟩
  · skip
    refine hx.val.bind (f := fun v => do
      standAt pos
      let t ← holding [v] (truthy v)
      match BoolOp.Or, t with
      | .And, false | .Or, true => pure v
      | _, _ => boolOp pos .Or (evalEach (y :: rest) env)) fun x1 v => Sim.stand ((Sim.holding sim_truthyV).bind fun b b' => ?_)
    intro H ρ s R p
    obtain ⟨e1, e2⟩ : b' = b ∧ v = .bool b := p.2
    subst e1 e2
    cases b' with
    | false => exact hy.1 H ρ s R p.1.1
    | true => exact wpAny_pure ⟨ρ, Full.refl _ _, R, .bool _⟩
  · rw [arm_isTrue_BoolOp, arm_allTrue_cons, ev_or]
    refine Sim.of_m (m := ((evalE cx.T Φ a Γ).bnd truth).bnd fun t => match t with
      | true => M.ret true
      | false => (evalE cx.T Φ b Γ).bnd truth) ?_ (hx.tru.bind fun b b' => ?_)
    · rw [bnd_assoc, bnd_assoc]
      congr 1; funext x1
      rw [bnd_assoc]
      congr 1; funext t
      cases t <;> rfl
    · intro H ρ s R p
      have e : b' = b := p.2
      subst e
      cases b' with
      | false => exact hy.2 H ρ s R p.1
      | true => exact wpAny_pure ⟨ρ, Full.refl _ _, R, rfl⟩
theorem notSet_marks {r : Expr} (h : notSet r = true) (op : CmpOp) : behindInMarks op r = false := by
  cases r <;> first | rfl | exact no_true h
theorem eok_cmp (hu : A.units + 100 < cLine) {op : COp} {a b : ME} {l r : Expr} {pos : Pos} (hn : notSet r = true) (x : EOk cx A P Φ env Γ a l) (y : EOk cx A P Φ env Γ b r) : EOk cx A P Φ env Γ (.cmp op a b) (.Compare l [cmOp op] [r] pos) := by
  have V : ∀ (x1 y1 : Val) (v w : Value), Sim cx A ((P.and (Amb.vr cx x1 v)).and (Amb.vr cx y1 w)) (operate [v, w] (compareOp (cmOp op) v w)) ((M.look (cmpV op x1 y1)).bnd fun r => M.ret (Val.bool r)) (Amb.vr cx) :=
    fun x1 y1 v w => Sim.oper (sim_cmp hu (fun _ _ p => p.1.2) fun _ _ p => p.2)
  refine ⟨?_, ?_⟩
  · rw [eval_Compare1, markedBehindIn_of_false (notSet_marks hn _)]
    exact x.val.bind fun x1 v => (Sim.holding y.val.and1).bind fun y1 w => Sim.stand (V x1 y1 v w)
  · rw [isTrue_Compare1, markedBehindIn_of_false (notSet_marks hn _), ev_cmp]
    rw [bnd_assoc]
    refine x.val.bind fun x1 v => ?_
    rw [bnd_assoc]
    exact (Sim.holding y.val.and1).bind fun y1 w => Sim.stand ((V x1 y1 v w).bind fun r c => Sim.holding sim_truthyA)
theorem eok_cmp2 (hu : A.units + 100 < cLine) {op1 op2 : COp} {a b c : ME} {l m r : Expr} {pos : Pos} (hn : notSet r = true) (x : EOk cx A P Φ env Γ a l) (y : EOk cx A P Φ env Γ b m) (z : EOk cx A P Φ env Γ c r) : EOk cx A P Φ env Γ (.cmp2 op1 op2 a b c) (.Compare l [cmOp op1, cmOp op2] [m, r] pos) := by
  have V1 : ∀ (x1 y1 : Val) (v w : Value), Sim cx A ((P.and (Amb.vr cx x1 v)).and (Amb.vr cx y1 w)) (holding [v, w] (compareOp (cmOp op1) v w)) ((M.look (cmpV op1 x1 y1)).bnd fun r => M.ret (Val.bool r)) (Amb.vr cx) :=
    fun x1 y1 v w => Sim.holding (sim_cmp hu (fun _ _ p => p.1.2) fun _ _ p => p.2)
  have e0 : ∀ (x1 y1 : Val) (k : Bool → M Val), ((M.look (cmpV op1 x1 y1)).bnd k) = (((M.look (cmpV op1 x1 y1)).bnd fun r => M.ret (Val.bool r)).bnd fun v => (truth v).bnd k) := fun x1 y1 k => by
    rw [bnd_assoc]; rfl
  refine ⟨?_, ?_⟩
  · rw [arm_eval_Compare, ev_cmp2]
    have em : markedEach [cmOp op1, cmOp op2] [m, r] (evalEach [m, r] env) = [eval m env, eval r env] := by
      show [eval m env, markedBehindIn (cmOp op2) r (eval r env)] = _
      rw [markedBehindIn_of_false (notSet_marks hn _)]
    rw [em]
    refine x.val.bind (f := fun left => do
      let rv ← holding [left] (eval m env)
      standAt pos
      let c ← holding [left, rv] (compareOp (cmOp op1) left rv)
      release [left, rv] [c]
      if ← holding [c, rv] (truthy c) then compareChain pos rv [cmOp op2] [eval r env] else pure c) fun x1 v => ?_
    refine (Sim.holding y.val.and1).bind fun y1 w => Sim.stand ?_
    rw [e0]
    refine (V1 x1 y1 v w).bind fun r1 c1 => Sim.relse ?_
    refine (Sim.holding sim_truthyV).bind fun t t' => ?_
    intro H ρ s R p
    obtain ⟨e1, e2⟩ : t' = t ∧ c1 = .bool t := p.2
    subst e1 e2
    cases t' with
    | false => exact wpAny_pure ⟨ρ, Full.refl _ _, R, .bool _⟩
    | true =>
      have W : Sim cx A (P.and (Amb.vr cx y1 w)) (compareChain pos w [cmOp op2] [eval r env]) ((evalE cx.T Φ c Γ).bnd fun z => (M.look (cmpV op2 y1 z)).bnd fun r => M.ret (Val.bool r)) (Amb.vr cx) :=
        (Sim.holding z.val.and1).bind fun z1 u => Sim.stand (Sim.oper (sim_cmp hu (fun _ _ p => p.1.2) fun _ _ p => p.2))
      exact W H ρ s R ⟨p.1.1.1.1, p.1.1.2⟩
  · rw [arm_isTrue_Compare, ev_cmp2]
    have em : markedEach [cmOp op1, cmOp op2] [m, r] (evalEach [m, r] env) = [eval m env, eval r env] := by
      show [eval m env, markedBehindIn (cmOp op2) r (eval r env)] = _
      rw [markedBehindIn_of_false (notSet_marks hn _)]
    rw [em, bnd_assoc]
    refine x.val.bind (f := fun left => do
      let rv ← holding [left] (eval m env)
      standAt pos
      let c ← holding [left, rv] (compareOp (cmOp op1) left rv)
      release [left, rv] [c]
      if ← holding [c, rv] (truthy c) then testChain pos rv [cmOp op2] [eval r env] else pure false) fun x1 v => ?_
    rw [bnd_assoc]
    refine (Sim.holding y.val.and1).bind fun y1 w => Sim.stand ?_
    rw [e0, bnd_assoc]
    refine (V1 x1 y1 v w).bind fun r1 c1 => Sim.relse ?_
    rw [bnd_assoc]
    refine (Sim.holding sim_truthyV).bind fun t t' => ?_
    intro H ρ s R p
    obtain ⟨e1, e2⟩ : t' = t ∧ c1 = .bool t := p.2
    subst e1 e2
    cases t' with
    | false => exact wpAny_pure ⟨ρ, Full.refl _ _, R, rfl⟩
    | true =>
      have W : Sim cx A (P.and (Amb.vr cx y1 w)) (testChain pos w [cmOp op2] [eval r env]) (((evalE cx.T Φ c Γ).bnd fun z => (M.look (cmpV op2 y1 z)).bnd fun r => M.ret (Val.bool r)).bnd truth) BV := by
        rw [bnd_assoc]
        have V2 : ∀ (z1 : Val) (u : Value), Sim cx A ((P.and (Amb.vr cx y1 w)).and (Amb.vr cx z1 u)) (operate [w, u] (compareOp (cmOp op2) w u)) ((M.look (cmpV op2 y1 z1)).bnd fun r => M.ret (Val.bool r)) (Amb.vr cx) :=
          fun z1 u => Sim.oper (sim_cmp hu (fun _ _ p => p.1.2) fun _ _ p => p.2)
        exact (Sim.holding z.val.and1).bind fun z1 u => Sim.stand ((V2 z1 u).bind fun _ _ => Sim.holding sim_truthyA)
      exact W H ρ s R ⟨p.1.1.1.1, p.1.1.2⟩
end
end Mine
-- part MCall
namespace Mine
open PySem
theorem look_some {α : Type} {f : Hp → Option α} {H : Hp} {a : α} (h : f H = some a) : M.look f H = .ok a H := by unfold M.look; rw [h]
theorem look_none {α : Type} {f : Hp → Option α} {H : Hp} (h : f H = none) : M.look f H = .bad := by unfold M.look; rw [h]
theorem blt_mem (f : BF) (h : f ≠ .sortedSet) : ((bfName f).1, bfVal f) ∈ bltTab := by
  unfold bltTab
  cases f <;> first
    | exact absurd rfl h
    | repeat (first | exact List.Mem.head _ | apply List.Mem.tail)
theorem ty_mem (t : Ty) (h : ∀ c, t ≠ .cls c) : (tyName t, tyVal t) ∈ bltTab := by
  unfold bltTab
  cases t <;> first
    | exact absurd rfl (h _)
    | repeat (first | exact List.Mem.head _ | apply List.Mem.tail)
theorem isi_mem : (("isinstance" : Str), Value.builtin "isinstance") ∈ bltTab := by
  unfold bltTab
  repeat (first | exact List.Mem.head _ | apply List.Mem.tail)
section
variable {cx : Cx} {N : Names} {A : Around} {P : Amb} {env : Env} {sc : Scope} {ns : List (Option Str)} {Γ : Env'} {Φ : Funs} {l : List Env}
theorem len2 {α : Type} {xs : List α} (h : xs.length = 2) : ∃ a b, xs = [a, b] := by
  match xs, h with
  | [a, b], _ => exact ⟨a, b, rfl⟩
theorem sim_bfcall (hh : A.handled = none) (hu : A.units + 100 < cLine) (f : BF) (hf : f ≠ .sortedSet) {ms : List Val} {vs : List Value} (hl : ms.length = (bfName f).2) : Sim cx A (Amb.vrs cx ms vs) (call (bfVal f) vs) (bfV f ms) (Amb.vr cx) := by
  have one : ∀ {t : Sem Value} {m : Val → M Val}, ms.length = 1 → (∀ (a : Val) (v : Value), ms = [a] → vs = [v] → Sim cx A (Amb.vr cx a v) t (bfV f ms) (Amb.vr cx)) → Sim cx A (Amb.vrs cx ms vs) t (bfV f ms) (Amb.vr cx) := by
    intro t m h1 k H ρ s R p
    have p' : VRs cx ρ s.heap ms vs := p
    have hv := p'.length
    obtain ⟨a, rfl⟩ := List.length_eq_one_iff.mp h1
    obtain ⟨v, rfl, x⟩ := p'.one_inv
    exact k a v rfl rfl H ρ s R x
  have two : ∀ {t : Sem Value} {m : Val → M Val}, ms.length = 2 → (∀ (a b : Val) (v w : Value), ms = [a, b] → vs = [v, w] → Sim cx A ((Amb.vr cx a v).and (Amb.vr cx b w)) t (bfV f ms) (Amb.vr cx)) → Sim cx A (Amb.vrs cx ms vs) t (bfV f ms) (Amb.vr cx) := by
    intro t m h1 k H ρ s R p
    have p' : VRs cx ρ s.heap ms vs := p
    have hv := p'.length
    obtain ⟨a, b, rfl⟩ := len2 h1
    obtain ⟨v, w, rfl, x, y⟩ := p'.two_inv
    exact k a b v w rfl rfl H ρ s R ⟨x, y⟩
  cases f with
  | len => exact one (m := fun _ => .bad) hl fun a v e1 e2 => by subst e1 e2; exact sim_len fun _ _ p => p
  | range => exact one (m := fun _ => .bad) hl fun a v e1 e2 => by subst e1 e2; exact sim_range fun _ _ p => p
  | list => exact one (m := fun _ => .bad) hl fun a v e1 e2 => by subst e1 e2; exact sim_listOf hh fun _ _ p => p
  | str => exact one (m := fun _ => .bad) hl fun a v e1 e2 => by subst e1 e2; exact sim_strOf fun _ _ p => p
  | int => exact one (m := fun _ => .bad) hl fun a v e1 e2 => by subst e1 e2; exact sim_intB fun _ _ p => p
  | sortedSet => exact absurd rfl hf
theorem eok_bf (B : Base cx N) (hh : A.handled = none) (hu : A.units + 100 < cLine) {f : BF} {x : Str} {xs : List Expr} {es : MEs} {np pos : Pos} (hg : isGlob sc x = true) (hx : (bfName f).1 = x) (hl : (bfName f).2 = xs.length) (hes : ckEs N sc ns es xs = true)
    (y : Sim cx A ((Amb.env cx env sc ns Γ).and (Amb.frames cx l)) (spliced (xs.map fun e => (false, eval e env))) (evalEs cx.T Φ es Γ) (Amb.vrs cx)) :
    EOk cx A ((Amb.env cx env sc ns Γ).and (Amb.frames cx l)) Φ env Γ (.bf f es) (.Call (.Name x np) xs [] pos) := by
  refine EOk.of ?_ rfl
  obtain ⟨mg, mb, ng, nb, _, _, _, q⟩ := B.ns
  intro H ρ s R p
  by_cases hf : f = .sortedSet
  · subst hf
    first | rw [ev_call] | rw [ev_new] | rw [ev_umeth] | rw [ev_bf] | rw [ev_isinst] | rw [ev_bm]
    show SimAt cx A (M.bnd _ (fun vs => bfV .sortedSet vs) H) _ _ ρ s
    have hx' : xs = [] := List.eq_nil_of_length_eq_zero hl.symm
    subst hx'
    obtain hr0 := ckEs_nil hes; refine Eq.symm hr0 ▸ ?_
    trivial
  · have q12 : mg (bfName f).1 = none ∧ mb (bfName f).1 = some (bfVal f) := q _ (blt_mem f hf)
    obtain ⟨q1, q2⟩ := q12
    rw [hx] at q1 q2
    first | rw [ev_call] | rw [ev_new] | rw [ev_umeth] | rw [ev_bf] | rw [ev_isinst] | rw [ev_bm]
    refine SimK.mono (simK_args (f := bfVal f) (K := fun vs Q E s => wpAny (model cx.prog cx.w) A (call (bfVal f) vs) Q E s) (fun e => ckEs_nil (e ▸ hes)) R (y H ρ s R p) ?_ fun _ => monoK_wp _) ?_
    · intro ms vs H1 ρ1 s1 e1 F1 R1 vrs
      exact sim_bfcall hh hu f hf (by rw [evalEs_length hes e1, hl]) H1 ρ1 s1 R1 vrs
    · intro Q E h
      refine wpAny_Call_ofName (wp_glob R p.1.st hg ng nb (v := bfVal f) (.inr ⟨q1, q2⟩) ?_)
      rw [plainArgs_trees pos (ckEs_plain hes)]
      have hq : (∃ id, bfVal f = .builtin id) ∨ ∃ T, bfVal f = .type T := by
        cases f <;> first | exact absurd rfl hf | exact .inl ⟨_, rfl⟩ | exact .inr ⟨_, rfl⟩
      generalize bfVal f = bv at h hq ⊢
      rcases hq with ⟨id, rfl⟩ | ⟨T, rfl⟩
      · exact Calls.callWith_builtin (any_false _) (wpAny_mono h (fun a s₁ h₁ => by rw [h₁.1]; exact h₁.2) fun _ _ q => q)
      · exact PyProof.Rows.callWith_type (any_false _) (wpAny_mono h (fun a s₁ h₁ => by rw [h₁.1]; exact h₁.2) fun _ _ q => q)
theorem eok_isi (B : Base cx N) {t : Ty} (ht : ∀ c, t ≠ .cls c) {a : ME} {f y : Str} {x : Expr} {fp yp pos : Pos} (hg : isGlob sc f = true) (hf : f = ("isinstance" : Str)) (hy : isGlob sc y = true) (hty : tyName t = y) (hp : notStar x = true)
    (z : EOk cx A ((Amb.env cx env sc ns Γ).and (Amb.frames cx l)) Φ env Γ a x) :
    EOk cx A ((Amb.env cx env sc ns Γ).and (Amb.frames cx l)) Φ env Γ (.isinst a t) (.Call (.Name f fp) [x, .Name y yp] [] pos) := by
  refine EOk.of ?_ rfl
  obtain ⟨mg, mb, ng, nb, _, _, _, q⟩ := B.ns
  intro H ρ s R p
  have q12 : mg ("isinstance" : Str) = none ∧ mb ("isinstance" : Str) = some (.builtin "isinstance") := q _ isi_mem
  have q34 : mg (tyName t) = none ∧ mb (tyName t) = some (tyVal t) := q _ (ty_mem t ht)
  obtain ⟨q1, q2⟩ := q12
  obtain ⟨q3, q4⟩ := q34
  rw [← hf] at q1 q2
  rw [hty] at q3 q4
  first | rw [ev_call] | rw [ev_new] | rw [ev_umeth] | rw [ev_bf] | rw [ev_isinst] | rw [ev_bm]
  refine SimAt.bindK (K' := fun Q E s => wpAny (model cx.prog cx.w) A (eval (.Call (.Name f fp) [x, .Name y yp] [] pos) env) Q E s) (K := fun v Q E s => wpAny (model cx.prog cx.w) A (eval (.Name y yp) env) (fun w s' => wpAny (model cx.prog cx.w) A (call (.builtin "isinstance") [v, w]) Q E s') E s) (z.val H ρ s R p) ?_ ?_ ?_
  · intro b v H1 ρ1 s1 _ F1 R1 vr
    have e1 := (p.1.full F1).st
    have ht2 : (isinstV cx.T b t) = M.look (fun H => (kdOf H b).map fun k => Val.bool (isKd t k)) := by
      cases t <;> first | rfl | exact absurd rfl (ht _)
    show SimK cx (isinstV cx.T b t H1) _ _ ρ1 s1
    rw [ht2]
    cases ek : kdOf H1 b with
    | none =>
      have : M.look (fun H => (kdOf H b).map fun k => Val.bool (isKd t k)) H1 = .bad := look_none (by show Option.map _ (kdOf H1 b) = none; rw [ek]; rfl)
      rw [this]; trivial
    | some k =>
      have : M.look (fun H => (kdOf H b).map fun k => Val.bool (isKd t k)) H1 = .ok (Val.bool (isKd t k)) H1 := look_some (by show Option.map _ (kdOf H1 b) = _; rw [ek]; rfl)
      rw [this]
      refine wp_glob R1 e1 hy ng nb (v := tyVal t) (.inr ⟨q3, q4⟩) ?_
      exact wp_isi R1 vr ek ht fun tk => ⟨ρ1, Full.refl _ _, R1.toks tk, .bool _⟩
  · exact fun v Q E Q' E' s h k1 k2 => wpAny_mono h (fun _ _ h' => wpAny_mono h' k1 k2) k2
  · intro Q E h
    refine wpAny_Call_ofName (wp_glob R p.1.st hg ng nb (v := .builtin "isinstance") (.inr ⟨q1, q2⟩) ?_)
    have pl : plainArgs env [x, .Name y yp] := ⟨starEach_plain hp, starEach_plain rfl, trivial⟩
    rw [plainArgs_trees pos pl]
    refine Calls.callWith_builtin (any_false _) (Calls.evalArgs_plain (Calls.spliced_cons (wpAny_mono h (fun v s' h' => ?_) fun _ _ q => q)))
    exact Calls.spliced_cons (wpAny_mono h' (fun w s'' h'' => Calls.spliced_nil h'') fun _ _ q => q)
theorem eok_sub (hu : A.units + 100 < cLine) {a i : ME} {v s : Expr} {pos : Pos} (x : EOk cx A P Φ env Γ a v) (y : EOk cx A P Φ env Γ i s) : EOk cx A P Φ env Γ (.sub a i) (.Subscript v s pos) := by
  refine EOk.of ?_ rfl
  intro H ρ st R p
  refine SimAt.bindK (K' := fun Q E s' => wpAny (model cx.prog cx.w) A (eval (.Subscript v s pos) env) Q E s') (K := fun o Q E s' => wpAny (model cx.prog cx.w) A (eval s env) (fun i s'' => wpAny (model cx.prog cx.w) A (PyProof.Rows.subscriptTail v s o i) Q E s'') E s') (x.val H ρ st R p) ?_ ?_ ?_
  · intro b o H1 ρ1 s1 _ F1 R1 vr
    refine SimAt.bindK (K' := fun Q E s' => wpAny (model cx.prog cx.w) A (eval s env) (fun i s'' => wpAny (model cx.prog cx.w) A (PyProof.Rows.subscriptTail v s o i) Q E s'') E s') (K := fun i Q E s' => wpAny (model cx.prog cx.w) A (PyProof.Rows.subscriptTail v s o i) Q E s') (y.val H1 ρ1 s1 R1 (P.st _ _ _ _ p F1)) ?_ (fun _ => monoK_wp _) fun Q E h => h
    intro b2 i2 H2 ρ2 s2 _ F2 R2 vr2
    exact sim_subTail (P := (Amb.vr cx b o).and (Amb.vr cx b2 i2)) hu (fun _ _ p => p.1) (fun _ _ p => p.2) H2 ρ2 s2 R2 ⟨vr.step F2.step, vr2⟩
  · exact fun v Q E Q' E' s h k1 k2 => wpAny_mono h (fun _ _ h' => wpAny_mono h' k1 k2) k2
  · exact fun Q E h => PyProof.Rows.Subscript_ h
end
end Mine
-- part MIsi2
namespace Mine
open PySem
section
variable {cx : Cx} {N : Names} {A : Around} {Φ : Funs} {l : List Env} {env : Env} {sc : Scope} {ns : List (Option Str)} {Γ : Env'} {H : Hp} {ρ : Rho} {s : Shared}
theorem wp_isiX (B : Base cx N) (R : Rel cx H ρ s) {c dc : Nat} {v D : Value} (vr : VR cx ρ s.heap (.exc c) v) (hi : cx.T.isExc c = true) (hD : cx.cls[dc]? = some D) {Q : Value → Shared → Prop} {E : Value → Shared → Prop} (q : ∀ tk, Q (.bool (cx.T.sub c dc)) { s with toks := tk }) :
    wpAny (model cx.prog cx.w) A (call (.builtin "isinstance") [v, D]) Q E s := by
  obtain ⟨C, hC, ok⟩ := B.exc c hi
  obtain ⟨K, X, k, m⟩ := ok.isi
  obtain ⟨m1, m2⟩ := m dc D hD
  cases vr with
  | @exc a o _ C' g no hC' x =>
    rw [hC] at hC'; cases hC'
    obtain ⟨x1, ⟨vs, x2⟩, x3⟩ := x
    have XK : K.In s.heap := fun b ob e => R.base b ob (X b ob e)
    refine excK_call (K := K) (D := C) (ox := o) k XK ⟨g, x1, by unfold PySem.W.notCls; rw [x2], by rw [x3]; trivial⟩ (fun M h' X' => (clsVal_ty m1 X').1) (fun M h' X' => (clsVal_ty m1 X').2) (fun e => ?_) (fun M h' X' => PySem.W.looks_mroIn X' m2) q
    have e' := beq_iff_eq.mp e
    subst e'
    have := ok.is
    refine hideG fun G kG => ?_
    obtain ⟨nm, qn, Nn, bs, bm, hdct, sn, sub, ab, col, dd, k0, k1, k2, k3, k5, mN, hCo, hNs, hin, tl, hsub⟩ := ok.is
    refine kG ?_
    rw [hsub dc _ hD, List.contains_cons, beq_self_eq_true, Bool.true_or]
theorem eok_isiC (B : Base cx N) {dc : Nat} {a : ME} {f y : Str} {x : Expr} {fp yp pos : Pos} (hg : isGlob sc f = true) (hf : f = ("isinstance" : Str)) (hy : isGlob sc y = true) (hc : hasNo N.clss y dc = true) (hp : notStar x = true)
    (z : EOk cx A ((Amb.env cx env sc ns Γ).and (Amb.frames cx l)) Φ env Γ a x) :
    EOk cx A ((Amb.env cx env sc ns Γ).and (Amb.frames cx l)) Φ env Γ (.isinst a (.cls dc)) (.Call (.Name f fp) [x, .Name y yp] [] pos) := by
  refine EOk.of ?_ rfl
  refine hideG fun G kG => ?_
  obtain ⟨mg, mb, ng, nb, _, _, qc, q⟩ := B.ns
  refine kG ?_
  intro H ρ s R p
  have q12 : mg ("isinstance" : Str) = none ∧ mb ("isinstance" : Str) = some (.builtin "isinstance") := q _ isi_mem
  obtain ⟨q1, q2⟩ := q12
  rw [← hf] at q1 q2
  obtain ⟨D, hD, hx⟩ := qc y dc (hasNo_eq hc)
  refine SimAt.bindK (K' := fun Q E s => wpAny (model cx.prog cx.w) A (eval (.Call (.Name f fp) [x, .Name y yp] [] pos) env) Q E s) (K := fun v Q E s => wpAny (model cx.prog cx.w) A (eval (.Name y yp) env) (fun w s' => wpAny (model cx.prog cx.w) A (call (.builtin "isinstance") [v, w]) Q E s') E s) (z.val H ρ s R p) ?_ ?_ ?_
  · intro b v H1 ρ1 s1 _ F1 R1 vr
    have e1 := (p.1.full F1).st
    cases b with
    | exc c =>
      by_cases hi : cx.T.isExc c = true
      · have : isinstV cx.T (.exc c) (.cls dc) H1 = .ok (.bool (cx.T.sub c dc)) H1 := look_some (by show (if cx.T.isExc c = true then some (Val.bool (cx.T.sub c dc)) else none) = _; rw [if_pos hi])
        rw [this]
        refine wp_glob R1 e1 hy ng nb hx ?_
        exact wp_isiX B R1 vr hi hD fun tk => ⟨ρ1, Full.refl _ _, R1.toks tk, .bool _⟩
      · have : isinstV cx.T (.exc c) (.cls dc) H1 = .bad := look_none (by show (if cx.T.isExc c = true then some (Val.bool (cx.T.sub c dc)) else none) = _; rw [if_neg hi])
        rw [this]; trivial
    | _ => trivial
  · exact fun v Q E Q' E' s h k1 k2 => wpAny_mono h (fun _ _ h' => wpAny_mono h' k1 k2) k2
  · intro Q E h
    refine wpAny_Call_ofName (wp_glob R p.1.st hg ng nb (v := .builtin "isinstance") (.inr ⟨q1, q2⟩) ?_)
    have pl : plainArgs env [x, .Name y yp] := ⟨starEach_plain hp, starEach_plain rfl, trivial⟩
    rw [plainArgs_trees pos pl]
    refine Calls.callWith_builtin (any_false _) (Calls.evalArgs_plain (Calls.spliced_cons (wpAny_mono h (fun v s' h' => ?_) fun _ _ q => q)))
    exact Calls.spliced_cons (wpAny_mono h' (fun w s'' h'' => Calls.spliced_nil h'') fun _ _ q => q)
end
end Mine
-- part MComp
namespace Mine
open PySem
noncomputable def cloOf (env : Env) : List (Str × NameKind) → List (Str × Addr) → List (Str × Addr)
  | [], acc => acc
  | (n, k) :: r, acc => if k == .free then cloOf env r ((n, (env.cells.lookup n).getD 0) :: acc) else cloOf env r acc
theorem closureFor_eq {scope : Scope} {env : Env} (h : ∀ p ∈ scope.names, p.2 = .free → ∃ c, env.cells.lookup p.1 = some c) : closureFor scope env = pure (cloOf env scope.names []) := by
  have gen : ∀ (names : List (Str × NameKind)) (acc : List (Str × Addr)), (∀ p ∈ names, p.2 = .free → ∃ c, env.cells.lookup p.1 = some c) →
      (forIn names acc fun x cs => if (x.2 == .free) = true then (do let c ← cellOf env x.1; pure (ForInStep.yield ((x.1, c) :: cs))) else pure (ForInStep.yield cs) : Sem _) = pure (cloOf env names acc) := by
    intro names
    induction names with
    | nil => intro acc _; rfl
    | cons p r ih =>
      intro acc hp
      obtain ⟨n, k⟩ := p
      rw [List.forIn_cons]
      unfold cloOf
      by_cases q : (k == .free) = true
      · obtain ⟨c, hc⟩ := hp (n, k) (.head _) (by simpa using q)
        have hc' : env.cells.lookup n = some c := hc
        have e : cellOf env n = pure c := by unfold cellOf; rw [hc']
        simp only [q, if_true, e, pure_bind, hc', Option.getD_some]
        exact ih _ fun p hp' => hp p (.tail _ hp')
      · simp only [q, if_false, pure_bind]
        exact ih _ fun p hp' => hp p (.tail _ hp')
  unfold closureFor
  have := gen scope.names [] h
  simp only [bind_pure] at this ⊢
  rw [← this]
set_option tactic.hygienic true in
theorem clo_val {env : Env} : ∀ {names : List (Str × NameKind)} {acc : List (Str × Addr)} {y : Str} {c : Addr}, (∀ z d, acc.lookup z = some d → d = (env.cells.lookup z).getD 0) → (cloOf env names acc).lookup y = some c → c = (env.cells.lookup y).getD 0
  | [], acc, y, c, ha, h => ha y c h
  | (n, k) :: r, acc, y, c, ha, h => by
    unfold cloOf at h
    split at h
    · refine clo_val (fun z d hd => ?_) h
      rw [List.lookup_cons] at hd
      split at hd
      · rename_i e
        have : z = n := by simpa using e
        refine Eq.symm this ▸ ?_
        cases hd; rfl
      · exact ha z d hd
    · exact clo_val ha h
set_option tactic.hygienic true in
theorem clo_has {env : Env} : ∀ {names : List (Str × NameKind)} {acc : List (Str × Addr)} {y : Str}, ((y, NameKind.free) ∈ names ∨ (acc.lookup y).isSome = true) → ((cloOf env names acc).lookup y).isSome = true
  | [], _, _, h => by
    rcases h with h | h
    · cases h
    · exact h
  | (n, k) :: r, acc, y, h => by
    unfold cloOf
    split
    · rename_i hk
      refine clo_has ?_
      rcases h with h | h
      · rcases List.mem_cons.mp h with e | h
        · cases e; right; simp
        · exact .inl h
      · right
        rw [List.lookup_cons]
        split
        · rfl
        · exact h
    · rename_i hk
      refine clo_has ?_
      rcases h with h | h
      · rcases List.mem_cons.mp h with e | h
        · cases e; simp at hk
        · exact .inl h
      · exact .inr h
set_option tactic.hygienic true in
theorem clo_mem {env : Env} : ∀ {names : List (Str × NameKind)} {acc : List (Str × Addr)} {y : Str} {c : Addr}, (cloOf env names acc).lookup y = some c → (y, NameKind.free) ∈ names ∨ (acc.lookup y).isSome = true
  | [], _, _, _, h => by right; have h' : List.lookup _ _ = _ := h; unfold cloOf at h'; rw [h']; rfl
  | (n, k) :: r, acc, y, c, h => by
    unfold cloOf at h
    split at h
    · rename_i hk
      rcases clo_mem h with h | h
      · exact .inl (.tail _ h)
      · rw [List.lookup_cons] at h
        split at h
        · rename_i e
          have : y = n := by simpa using e
          refine this ▸ ?_
          have : k = .free := by simpa using hk
          subst this
          exact .inl (.head _)
        · exact .inr h
    · rcases clo_mem h with h | h
      · exact .inl (.tail _ h)
      · exact .inr h
theorem cellsFrom_append : ∀ (names : List (Str × NameKind)) (n : Nat) (acc : List (Str × Addr)), cellsFrom n names acc = cellsFrom n names [] ++ acc
  | [], _, _ => rfl
  | (y, k) :: r, n, acc => by
    unfold cellsFrom
    split
    · rw [cellsFrom_append r (n + 1) ((y, n) :: acc), cellsFrom_append r (n + 1) [(y, n)], List.append_assoc]; rfl
    · exact cellsFrom_append r n acc
set_option tactic.hygienic true in
theorem cellsFrom_mem : ∀ {names : List (Str × NameKind)} {n : Nat} {acc : List (Str × Addr)} {y : Str} {c : Addr}, (y, c) ∈ cellsFrom n names acc → (y, NameKind.cell) ∈ names ∨ (y, c) ∈ acc
  | [], _, _, _, _, h => .inr h
  | (z, k) :: r, n, acc, y, c, h => by
    unfold cellsFrom at h
    split at h
    · rename_i hk
      rcases cellsFrom_mem h with h | h
      · exact .inl (.tail _ h)
      · rcases List.mem_cons.mp h with e | h
        · cases e
          have : k = .cell := by simpa using hk
          refine this ▸ ?_
          exact .inl (.head _)
        · exact .inr h
    · rcases cellsFrom_mem h with h | h
      · exact .inl (.tail _ h)
      · exact .inr h
theorem relabel_lookup {env : Env} : ∀ (names : List (Str × NameKind)) (y : Str), (names.map fun (n, k) => if (k == NameKind.free && env.scope.kind == .function && env.kindOf n == some .cell) then (n, NameKind.cell) else (n, k)).lookup y =
    (names.lookup y).map fun k => if (k == NameKind.free && env.scope.kind == .function && env.kindOf y == some .cell) = true then NameKind.cell else k
  | [], _ => rfl
  | (n, k) :: r, y => by
    have ih := @relabel_lookup env r y
    show List.lookup y ((if (k == NameKind.free && env.scope.kind == .function && env.kindOf n == some .cell) = true then (n, NameKind.cell) else (n, k)) :: _) = _
    cases hx : y == n with
    | true =>
      have : y = n := by simpa using hx
      refine this ▸ ?_
      by_cases hc : (k == NameKind.free && env.scope.kind == .function && env.kindOf y == some .cell) = true
      · rw [if_pos hc]
        simp only [List.lookup_cons, beq_self_eq_true, Option.map_some]
        rw [if_pos hc]
      · rw [if_neg hc]
        simp only [List.lookup_cons, beq_self_eq_true, Option.map_some]
        rw [if_neg hc]
    | false =>
      by_cases hc : (k == NameKind.free && env.scope.kind == .function && env.kindOf n == some .cell) = true
      · rw [if_pos hc]; simp only [List.lookup_cons, hx]; exact ih
      · rw [if_neg hc]; simp only [List.lookup_cons, hx]; exact ih
noncomputable def compEnv (csc : Scope) (env : Env) (L : Addr) : Env :=
  { scope := relabel csc env, locals := L, globals := env.globals, cells := cellsFrom (L + 1) csc.names (cloOf env csc.names []), qual := env.qual, func := none, code := env.code, frame := env.frame, builtins := env.builtins }
noncomputable def compHeap (csc : Scope) (h : Heap) : Heap := pushCells (h.push { cls := .type "dict", data := .dict #[] }) csc.names
theorem wpAny_newCompEnv {M : Model} {A : Around} {E : Value → Shared → Prop} {s : Shared} {env : Env} {csc : Scope} {Q : Env → Shared → Prop} (cl : List (Str × Addr))
    (h : Q (newEnv csc s.heap.objs.size env.globals (cellsFrom (s.heap.objs.size + 1) csc.names cl) env.qual none .none (some env) builtinsNs) { s with heap := compHeap csc s.heap }) :
    wpAny M A (newFunctionEnv csc env.globals cl [] env.qual none .none (some env)) Q E s := by
  simp only [newFunctionEnv, Option.isSome_some, if_true]
  refine wpAny_bind (wpAny_alloc ?_)
  refine wpAny_bind (wpAny_layCells _ (fun name kind cells => by cases hkc : kind == NameKind.cell <;> simp [hkc]) _ _ _ _ ?_)
  rw [show ({ s with heap := s.heap.push { cls := .type "dict", data := .dict #[] } } : Shared).heap.objs.size = s.heap.objs.size + 1 from Heap.size_push ..]
  exact wpAny_bind (wpAny_pure (wpAny_pure h))
section
variable {cx : Cx} {N : Names} {A : Around} {env : Env} {sc csc : Scope} {ns : List (Option Str)} {Γ : Env'} {H : Hp} {ρ : Rho} {s : Shared} {x : Str}
theorem compOk_parts (h : compOk sc csc x = true) : csc.kind = .function ∧ (csc.names.lookup x = some .local ∨ csc.names.lookup x = some .cell) ∧
    (∀ p ∈ csc.names, csc.names.lookup p.1 = some p.2 ∧ (p.2 = .free → sc.names.lookup p.1 = some .cell ∨ sc.names.lookup p.1 = some .free)) :=
  ⟨of_decide_eq_true (an1 h), or_of (an1 (an2 h)), fun p hp => have q := List.all_eq_true.mp (an2 (an2 h)) p hp
    ⟨of_decide_eq_true (an1 q), fun w => ((Bool.or_eq_true _ _).mp (an2 q)).elim (fun z => absurd w (of_decide_eq_false (not_not z))) or_of⟩⟩
theorem inner_at {ns : List (Option Str)} {i : Nat} {y : Str} (h : (inner csc ns)[i]? = some (some y)) : ns[i]? = some (some y) ∧ csc.names.lookup y = some .free := by
  obtain ⟨o, e, h⟩ := Option.map_eq_some_iff.mp (List.getElem?_map.symm.trans h)
  obtain ⟨z, e2, h⟩ := Option.bind_eq_some_iff.mp h
  obtain ⟨q, h⟩ := ite_some h
  exact h ▸ ⟨e.trans (congrArg some e2), q⟩
theorem compHeap_keep (csc : Scope) (h : Heap) : ∀ b o, h.get? b = some o → (compHeap csc h).get? b = some o := fun b o e => pushCells_keeps _ _ b o (Heap.get?_push_of_some _ e)
theorem comp_env (R : Rel cx H ρ s) (e0 : EnvOk cx env sc ns Γ ρ s.heap) (hc : compOk sc csc x = true) (hΓ : Γ.length = ns.length) :
    EnvOk cx (compEnv csc env s.heap.objs.size) csc (inner csc ns ++ [some x]) (Γ ++ [none]) ρ (compHeap csc s.heap) ∧
    (∀ q, csc.names.lookup x = some .cell → (compEnv csc env s.heap.objs.size).cells.lookup x = some q → s.heap.get? q = none) := by
  obtain ⟨c1, c2, c3⟩ := compOk_parts hc
  have F : Full ρ s.heap ρ (compHeap csc s.heap) := Full.more (compHeap_keep csc s.heap)
  have lvB : Live cx.h₀ s.heap := fun b o e => ⟨o, R.base b o e⟩
  have ok := cellsFrom_ok csc.names (s.heap.push { cls := .type "dict", data := .dict #[] }) (s.heap.objs.size + 1) [] ⟨fun _ _ hm => (nomatch hm), List.Pairwise.nil⟩ (by rw [Heap.size_push]; exact Nat.le_refl _)
  rw [Heap.size_push] at ok
  have hcells : (compEnv csc env s.heap.objs.size).cells = cellsFrom (s.heap.objs.size + 1) csc.names [] ++ cloOf env csc.names [] := cellsFrom_append _ _ _
  have hlook : ∀ y c, (compEnv csc env s.heap.objs.size).cells.lookup y = some c →
      ((cellsFrom (s.heap.objs.size + 1) csc.names []).lookup y = some c ∧ (compHeap csc s.heap).IsCell c none ∧ s.heap.get? c = none ∧ csc.names.lookup y = some .cell) ∨
      (env.cells.lookup y = some c ∧ csc.names.lookup y = some .free) := by
    intro y c h
    rw [hcells, List.lookup_append] at h
    cases q : (cellsFrom (s.heap.objs.size + 1) csc.names []).lookup y with
    | some d =>
      rw [q] at h
      cases h
      have m := ok.empty y c (mem_of_lookup q)
      refine .inl ⟨rfl, m.1, fresh_le (Nat.le_of_succ_le m.2), ?_⟩
      rcases cellsFrom_mem (mem_of_lookup q) with w | w
      · exact (c3 _ w).1
      · exact nomatch w
    | none =>
      rw [q] at h
      have h' : (cloOf env csc.names []).lookup y = some c := h
      have m := clo_mem h'
      have mf : (y, NameKind.free) ∈ csc.names := by
        rcases m with m | m
        · exact m
        · exact no_true m
      obtain ⟨l1, l2⟩ := c3 _ mf
      obtain ⟨d, hd⟩ := e0.st.hasCell y (l2 rfl)
      have v := clo_val (acc := []) (fun z d h => by simp at h) h'
      rw [hd] at v
      exact .inr ⟨by rw [hd, v]; rfl, l1⟩
  have hfree : ∀ y, csc.names.lookup y = some .free → ∃ c, (compEnv csc env s.heap.objs.size).cells.lookup y = some c ∧ env.cells.lookup y = some c := by
    intro y hy
    have := clo_has (env := env) (acc := []) (.inl (mem_of_lookup hy))
    obtain ⟨c, h⟩ := Option.isSome_iff_exists.mp this
    have hn : (cellsFrom (s.heap.objs.size + 1) csc.names []).lookup y = none := by
      cases q : (cellsFrom (s.heap.objs.size + 1) csc.names []).lookup y with
      | none => rfl
      | some d =>
        rcases cellsFrom_mem (mem_of_lookup q) with w | w
        · have := (c3 _ w).1; rw [hy] at this; cases this
        · exact nomatch w
    have hl : (compEnv csc env s.heap.objs.size).cells.lookup y = some c := by rw [hcells, List.lookup_append, hn]; exact h
    refine ⟨c, hl, ?_⟩
    rcases hlook y c hl with ⟨_, _, _, w⟩ | ⟨w, _⟩
    · rw [hy] at w; exact nomatch w
    · exact w
  have hkind : ∀ y, (compEnv csc env s.heap.objs.size).kindOf y = (csc.names.lookup y).map fun k => if (k == NameKind.free && env.scope.kind == .function && env.kindOf y == some .cell) = true then NameKind.cell else k := fun y => relabel_lookup csc.names y
  have locNs : (compHeap csc s.heap).Ns s.heap.objs.size fun _ => none := (Heap.Ns.new s.heap (.type "dict")).keeps (pushCells_keeps _ _)
  refine ⟨⟨⟨c1, e0.st.glob, e0.st.blt, fun y k hy => ?_, ⟨_, locNs⟩, R.fresh_not (fresh_none _), lvB.none (fresh_none _), fun y c hy => ?_, fun y hy => ?_, fun y z c hy hz => ?_⟩, by unfold inner; rw [List.length_append, List.length_append, List.length_map, hΓ]; rfl, fun i y mv hi hm => ?_⟩, fun q hx hq => ?_⟩
  · rw [hkind, hy]
    cases k
    case free =>
      by_cases q : (NameKind.free == NameKind.free && env.scope.kind == .function && env.kindOf y == some .cell) = true
      · exact .inr (congrArg some (if_pos q))
      · exact .inl (congrArg some (if_neg q))
    all_goals first | rfl | trivial
  · rcases hlook y c hy with ⟨_, w1, w2, _⟩ | ⟨w, _⟩
    · exact ⟨⟨_, w1⟩, R.fresh_not w2, lvB.none w2⟩
    · obtain ⟨⟨v, hv⟩, n, b⟩ := e0.st.cells y c w
      exact ⟨⟨v, IsCell_keep hv (F.data n)⟩, n, b⟩
  · rcases hy with hy | hy
    · rw [hcells, List.lookup_append]
      obtain ⟨c, h⟩ := Option.isSome_iff_exists.mp (cells_has (n := s.heap.objs.size + 1) (acc := []) (.inl (mem_of_lookup hy)))
      exact ⟨c, by rw [h]; rfl⟩
    · obtain ⟨c, h, _⟩ := hfree y hy
      exact ⟨c, h⟩
  · rcases hlook y c hy with ⟨w0, w1, w2, _⟩ | ⟨w, _⟩ <;> rcases hlook z c hz with ⟨u0, u1, u2, _⟩ | ⟨u, _⟩
    · exact name_of_addr ok.apart (mem_of_lookup w0) (mem_of_lookup u0)
    · obtain ⟨⟨v, o, ho, _⟩, _⟩ := e0.st.cells z c u
      rw [w2] at ho; exact no_some ho
    · obtain ⟨⟨v, o, ho, _⟩, _⟩ := e0.st.cells y c w
      rw [u2] at ho; exact no_some ho
    · exact e0.st.apart y z c w u
  · by_cases lt : i < ns.length
    · rw [List.getElem?_append_left (by unfold inner; rw [List.length_map]; exact lt)] at hi
      rw [List.getElem?_append_left (by rw [hΓ]; exact lt)] at hm
      obtain ⟨hn, hf⟩ := inner_at hi
      · · · refine hideG fun G kG => ?_
            obtain ⟨v, hv, vr⟩ := e0.vals i y mv hn hm
            obtain ⟨c, k1, k2⟩ := hfree y hf
            refine kG ?_
            have ks : env.kindOf y = some .cell ∨ env.kindOf y = some .free := by
              rcases (c3 _ (mem_of_lookup hf)).2 rfl with w | w
              · exact .inl (e0.st.kinds y _ w)
              · rcases e0.st.kinds y _ w with w | w
                · exact .inr w
                · exact .inl w
            have hcell : s.heap.IsCell c (some v) := by
              rcases hv with ⟨kd, _⟩ | ⟨_, c', hc', hv⟩
              · rcases ks with w | w <;> rw [w] at kd <;> cases kd
              · rw [k2] at hc'; cases hc'; exact hv
            refine ⟨v, .inr ⟨?_, c, k1, hcell.keeps (compHeap_keep csc s.heap)⟩, vr.step F.step⟩
            rw [hkind, hf]
            simp only [Option.map_some]
            split
            · exact .inl rfl
            · exact .inr rfl
    · exfalso
      rw [List.getElem?_append_right (by rw [hΓ]; omega)] at hm
      cases q : i - Γ.length with
      | zero => rw [q] at hm; simp at hm
      | succ n => rw [q] at hm; simp at hm
  · rcases hlook x q hq with ⟨_, _, w, _⟩ | ⟨_, w⟩
    · exact w
    · rw [hx] at w; cases w
end
end Mine
-- part MLoop
namespace Mine
open PySem
section
variable {cx : Cx} {N : Names} {A : Around} {env : Env} {sc : Scope} {ns : List (Option Str)} {Γ : Env'} {H : Hp} {ρ ρ' : Rho} {s : Shared}
theorem Full.fresh {h h1 h2 : Heap} {q : Addr} (F : Full ρ h ρ' h1) (hq : h.get? q = none) (hs : ∀ b o, b ≠ q → h1.get? b = some o → h2.get? b = some o) : Full ρ h ρ' h2 := by
  have ne : ∀ b o, h.get? b = some o → b ≠ q := fun b o e w => by rw [w, hq] at e; exact no_some e
  refine ⟨F.grow, fun b o e n => ?_, fun b o e => ?_⟩
  · obtain ⟨o', e', u⟩ := F.keep b o e n
    exact ⟨o', hs b o' (ne b o e) e', u⟩
  · obtain ⟨o', e'⟩ := F.live b o e
    exact ⟨o', hs b o' (ne b o e) e'⟩
theorem Full.addOwn {h h1 : Heap} {p : Addr × Addr} (F : Full ρ h ρ' h1) (hp : h.get? p.1 = none ∧ h.get? p.2 = none) : Full ρ h (ρ' ++ [p]) h1 := by
  obtain ⟨e, hr0, he⟩ := F.grow; refine Eq.symm hr0 ▸ ?_
  refine ⟨⟨e ++ [p], by rw [List.append_assoc], fun q hq => ?_⟩, F.keep, F.live⟩
  rcases List.mem_append.mp hq with hq | hq
  · exact he q hq
  · rw [List.mem_singleton.mp hq]; exact hp
theorem EnvOk.but {h h' : Heap} {q : Addr} (x : EnvOk cx env sc ns Γ ρ h) (hs : ∀ b o, b ≠ q → h.get? b = some o → h'.get? b = some o) (n1 : q ≠ env.locals) (n2 : ∀ y, env.cells.lookup y ≠ some q) (st : Step ρ h ρ h') : EnvOk cx env sc ns Γ ρ h' := by
  have kl : ∀ o, h.get? env.locals = some o → ∃ o', h'.get? env.locals = some o' ∧ o'.data = o.data := fun o e => ⟨o, hs _ o (fun w => n1 w.symm) e, rfl⟩
  have kc : ∀ y c, env.cells.lookup y = some c → ∀ o, h.get? c = some o → ∃ o', h'.get? c = some o' ∧ o'.data = o.data := fun y c hc o e => ⟨o, hs _ o (fun w => n2 y (w ▸ hc)) e, rfl⟩
  obtain ⟨m, hm⟩ := x.st.loc
  refine ⟨⟨x.st.fn, x.st.glob, x.st.blt, x.st.kinds, ⟨m, Heap_Ns_keep hm kl⟩, x.st.locN, x.st.locB, fun y c hc => ?_, x.st.hasCell, x.st.apart⟩, x.len, fun i y mv hi hm => ?_⟩
  · obtain ⟨⟨v, hv⟩, a, b⟩ := x.st.cells y c hc
    exact ⟨⟨v, IsCell_keep hv (kc y c hc)⟩, a, b⟩
  · obtain ⟨v, hv, r⟩ := x.vals i y mv hi hm
    refine ⟨v, ?_, r.step st⟩
    rcases hv with ⟨k, m, hm, e⟩ | ⟨k, c, hc, e⟩
    · exact .inl ⟨k, m, Heap_Ns_keep hm kl, e⟩
    · exact .inr ⟨k, c, hc, IsCell_keep e (kc y c hc)⟩
theorem Rel.adopt (R : Rel cx H ρ s) {D : Addr} {vs : List Value} {n : Nat} {xs : List Val} (e : s.heap.get? D = some (listO vs n)) (r : VRs cx ρ s.heap xs vs) (z : xs.length ≤ sizeLine) (no : ¬ Owned ρ D) (nb : cx.h₀.get? D = none) :
    Rel cx (H ++ [.list xs]) (ρ ++ [(D, D)]) s ∧ VR cx (ρ ++ [(D, D)]) s.heap (.loc H.length) (.ref D) := by
  have notF : ¬ Fixed (listO vs n) := listO_not.1
  have notC : ∀ C, ¬ IsExcO (listO vs n) C := listO_not.2
  have own : ∀ b, ¬ Owned ρ b → b ≠ D → ¬ Owned (ρ ++ [(D, D)]) b := fun b nb ne ⟨p, hp, h⟩ => by
    rcases List.mem_append.mp hp with hp | hp
    · exact nb ⟨p, hp, h⟩
    · rw [List.mem_singleton.mp hp] at h
      rcases h with h | h <;> exact ne h
  have st : Step ρ s.heap (ρ ++ [(D, D)]) s.heap := ⟨⟨_, rfl⟩, fun b o eb f nb => ⟨eb, own b nb fun w => by rw [w, e] at eb; cases eb; exact notF f⟩, fun b o C eb c nb => ⟨o, eb, c, own b nb fun w => by rw [w, e] at eb; cases eb; exact notC C c⟩⟩
  have nD : ∀ p ∈ ρ, p.1 ≠ D ∧ p.2 ≠ D := fun p hp => ⟨fun w => no ⟨p, hp, .inl w.symm⟩, fun w => no ⟨p, hp, .inr w.symm⟩⟩
  have at' : ∀ {i : Nat} {q : Addr × Addr}, (ρ ++ [(D, D)])[i]? = some q → ρ[i]? = some q ∨ (i = ρ.length ∧ q = (D, D)) := by
    intro i q h
    by_cases lt : i < ρ.length
    · rw [List.getElem?_append_left lt] at h; exact .inl h
    · have hl' := (List.getElem?_eq_some_iff.mp h).1
      have le : i = ρ.length := by rw [List.length_append] at hl'; simp at hl'; omega
      subst le
      rw [List.getElem?_append_right (Nat.le_refl _)] at h
      simp at h
      exact .inr ⟨rfl, h.symm⟩
  refine ⟨⟨by rw [List.length_append, List.length_append, R.len]; rfl, fun l ob q hl hq => ?_, fun i j q r hij hi hj => ?_, fun q hq => ?_, R.base, R.sys, R.rest⟩, ?_⟩
  · rcases at' hq with hq | ⟨rfl, rfl⟩
    · have lt : l < H.length := by rw [R.len]; exact (List.getElem?_eq_some_iff.mp hq).1
      rw [List.getElem?_append_left lt] at hl
      exact (R.objs l ob q hl hq).step st fun b ob _ e => e
    · rw [← R.len, List.getElem?_append_right (Nat.le_refl _)] at hl
      simp at hl
      subst hl
      exact .list e (r.step st) z
  · rcases at' hi with hi' | ⟨hi', eq⟩ <;> rcases at' hj with hj' | ⟨hj', er⟩
    · exact R.apart i j q r hij hi' hj'
    · have q := nD _ (List.mem_of_getElem? hi'); rw [er]; exact ⟨⟨q.1, q.1⟩, q.2, q.2⟩
    · have q := nD _ (List.mem_of_getElem? hj'); rw [eq]; exact ⟨⟨q.1.symm, q.2.symm⟩, q.1.symm, q.2.symm⟩
    · exact absurd (hi'.trans hj'.symm) hij
  · rcases List.mem_append.mp hq with hq | hq
    · exact R.new q hq
    · rw [List.mem_singleton.mp hq]; exact ⟨nb, nb⟩
  · rw [R.len]
    exact VR.loc (p := (D, D)) (by rw [List.getElem?_append_right (Nat.le_refl _)]; simp)
structure CInv (cx : Cx) (ρ₁ : Rho) (h₁ : Heap) (D I : Addr) (cenv : Env) (csc : Scope) (ns' : List (Option Str)) (Γ : Env') (xs : List Val) (src : Option Nat) (i : Nat) (done : List Val) (H : Hp) (ρ : Rho) (s : Shared) : Prop where
  full : Full ρ₁ h₁ ρ s.heap
  rel : Rel cx H ρ s
  env : ∃ o, EnvOk cx cenv csc ns' (Γ ++ [o]) ρ s.heap
  it : ItOk cx xs I i ρ s.heap src
  acc : ∃ vs n, s.heap.get? D = some (listO vs n) ∧ VRs cx ρ s.heap done vs
  nD : ¬ Owned ρ D
  nI : ¬ Owned ρ I
variable {Φ : Funs} {l : List Env} {csc : Scope} {x : Str} {cond : MEo} {elt : ME} {ifs : List Expr} {e : Expr}
noncomputable def stepOf (T : Tab) (Φ : Funs) (cond : MEo) (elt : ME) (Γ : Env') (x : Val) : M (Option Val) := (evalC T Φ cond (Γ ++ [some x])).bnd fun b => match b with
  | true => (evalE T Φ elt (Γ ++ [some x])).bnd fun y => .ret (some y)
  | false => .ret none
theorem append_at {D : Addr} {vs : List Value} {n : Nat} {v : Value} {Q : Value → Shared → Prop} {E : Value → Shared → Prop} (g : s.heap.get? D = some (listO vs n)) (z : vs.length ≤ sizeLine)
    (k : ∀ h' n', h'.get? D = some (listO (vs ++ [v]) n') → Heap.SameBut D s.heap h' → Q .none { s with heap := h' }) : wpAny (model cx.prog cx.w) A (call (.builtin "list.append") [.ref D, v]) Q E s := by
  refine call_meets F.slot_list_append ⟨_, g, rfl⟩ F.entry_list_append (F.args_list_append_2 _ _) (list_append D vs.toArray n v (by simpa using z)) ⟨g, ?_⟩
  obtain ⟨n', e⟩ := mapSeq_list vs n (fun x => x.push v)
  refine k _ n' ?_ (Heap.SameBut.update ..)
  rw [Heap.get?_update_self _ g (by skip; rfl), e]
  simp
theorem compL_nil {c : Hp → Bool} {f : Val → M (Option Val)} {H H' : Hp} {r : List Val} (h : compL c f [] H = .ok r H') : c H = true ∧ r = [] ∧ H = H' := by
  have h : (if c H = true then Res.ok [] H else .bad) = Res.ok r H' := h
  by_cases q : c H = true
  · rw [if_pos q] at h; cases h; exact ⟨q, rfl, rfl⟩
  · rw [if_neg q] at h; exact no_bad h
theorem compL_cons {c : Hp → Bool} {f : Val → M (Option Val)} {m : Val} {xs : List Val} {H H' : Hp} {rest : List Val} (h : compL c f (m :: xs) H = .ok rest H') :
    c H = true ∧ ∃ r H3, f m H = .ok r H3 ∧ ∃ rest', compL c f xs H3 = .ok rest' H' ∧ rest = (match r with | some y => y :: rest' | none => rest') := by
  have h : (if c H = true then ((f m).bnd fun r => (compL c f xs).bnd fun ys => M.ret (match r with | some y => y :: ys | none => ys)) H else .bad) = .ok rest H' := h
  by_cases q : c H = true
  · rw [if_pos q] at h
    refine ⟨q, ?_⟩
    cases e1 : f m H with
    | bad => rw [bnd_bad e1] at h; exact nomatch h
    | exc c H3 => rw [bnd_exc e1] at h; exact no_exc h
    | ok r H3 =>
      rw [bnd_ok e1] at h
      cases e2 : compL c f xs H3 with
      | bad => rw [bnd_bad e2] at h; exact nomatch h
      | exc c H4 => rw [bnd_exc e2] at h; exact no_exc h
      | ok rest' H4 =>
        rw [bnd_ok e2] at h
        cases h
        exact ⟨r, H3, rfl, rest', e2, rfl⟩
  · rw [if_neg q] at h; exact no_bad h
theorem stepOf_ok {T : Tab} {m : Val} {r : Option Val} {H H3 : Hp} (h : stepOf T Φ cond elt Γ m H = .ok r H3) :
    ∃ b H4, evalC T Φ cond (Γ ++ [some m]) H = .ok b H4 ∧ ((b = false ∧ r = none ∧ H4 = H3) ∨ (b = true ∧ ∃ y, evalE T Φ elt (Γ ++ [some m]) H4 = .ok y H3 ∧ r = some y)) := by
  unfold stepOf at h
  cases e3 : evalC T Φ cond (Γ ++ [some m]) H with
  | bad => rw [bnd_bad e3] at h; exact no_bad h
  | exc c H4 => rw [bnd_exc e3] at h; exact no_exc h
  | ok b H4 =>
    rw [bnd_ok e3] at h
    refine ⟨b, H4, rfl, ?_⟩
    cases b with
    | false => cases h; exact .inl ⟨rfl, rfl, rfl⟩
    | true =>
      refine .inr ⟨rfl, ?_⟩
      dsimp only at h
      cases e4 : evalE T Φ elt (Γ ++ [some m]) H4 with
      | bad => rw [bnd_bad e4] at h; exact no_bad h
      | exc c H5 => rw [bnd_exc e4] at h; exact no_exc h
      | ok y H5 => rw [bnd_ok e4] at h; cases h; exact ⟨y, rfl, rfl⟩
theorem comp_loop {ns' : List (Option Str)} (hl : ns'.length = ns.length + 1) (hx' : ns'[ns.length]? = some (some x)) {ρ₁ : Rho} {s₁ : Shared} {D I : Addr} {cenv : Env} {xs ys : List Val} {src : Option Nat} {H₁ H₂ : Hp} {px pos : Pos} {iter : Expr} {R : Result → Shared → Prop} (hh : A.handled = none)
    (hD : s₁.heap.get? D = none) (hI : s₁.heap.get? I = none) (hDI : D ≠ I) (hC : s₁.heap.get? cenv.locals = none) (hX : ∀ q, csc.names.lookup x = some .cell → cenv.cells.lookup x = some q → s₁.heap.get? q = none)
    (hnd : ∀ (i j : Nat) (y : Str), ns'[i]? = some (some y) → ns'[j]? = some (some y) → i = j) (hΓ : Γ.length = ns.length) (hxk : csc.names.lookup x = some .local ∨ csc.names.lookup x = some .cell)
    (fr : FramesOk cx l ρ₁ s₁.heap) (lvB : Live cx.h₀ s₁.heap)
    (tests : ∀ Γ' : Env', Γ'.length = ns'.length → Sim cx A ((Amb.env cx cenv csc ns' Γ').and (Amb.frames cx l)) (forIn ifs true fun c r => if r = true then do let ok ← isTrue c cenv (eval c cenv); pure (ForInStep.yield ok) else pure (ForInStep.yield r)) (evalC cx.T Φ cond Γ') BV)
    (elts : ∀ Γ' : Env', Γ'.length = ns'.length → Sim cx A ((Amb.env cx cenv csc ns' Γ').and (Amb.frames cx l)) (eval e cenv) (evalE cx.T Φ elt Γ') (Amb.vr cx))
    (hz : ys.length < sizeLine) {s : Shared} {ρ : Rho} (ci : CInv cx ρ₁ s₁.heap D I cenv csc ns' Γ xs src 0 [] H₁ ρ s) (hres : compL (chk src xs) (stepOf cx.T Φ cond elt Γ) xs H₁ = .ok ys H₂)
    (k : ∀ ρ' s', Full ρ₁ s₁.heap ρ' s'.heap → Rel cx (H₂ ++ [.list ys]) ρ' s' → VR cx ρ' s'.heap (.loc H₂.length) (.ref D) → (∃ m, s'.heap.Ns cenv.locals m) → ¬ Owned ρ' cenv.locals → R (.ok .next) s') :
    codeAny (model cx.prog cx.w) A (.compLoop (.ListComp e [⟨.Name x px, iter, ifs, 0⟩] csc pos) 0 (.ref I) (.ref D) cenv) R s := by
  obtain ⟨Inv, hInv⟩ : ∃ Inv : Nat → Shared → Prop, ∀ n s, Inv n s ↔ ∃ i done H ρ rest, CInv cx ρ₁ s₁.heap D I cenv csc ns' Γ xs src i done H ρ s ∧ i ≤ xs.length ∧ n = xs.length + 1 - i ∧
    compL (chk src xs) (stepOf cx.T Φ cond elt Γ) (xs.drop i) H = .ok rest H₂ ∧ done ++ rest = ys := ⟨_, fun _ _ => Iff.rfl⟩
  refine codeAny_compLoop_tests Inv ?_ (xs.length + 1) ((hInv _ _).mpr ⟨0, [], H₁, ρ, ys, ci, Nat.zero_le _, rfl, hres, rfl⟩)
  intro n s hin
  refine hideG fun G kG => ?_
  obtain ⟨i, done, H, ρ, rest, ci, hi, hr0, hr, hys⟩ := (hInv _ _).mp hin
  obtain ⟨vs, nn, gD, rD⟩ := ci.acc
  obtain ⟨oo, eok⟩ := ci.env
  obtain ⟨oI, gI, iO⟩ := ci.it.obj
  refine kG ?_
  cases hx : xs[i]? with
  | none =>
    have hlen := List.getElem?_eq_none_iff.mp hx
    rw [List.drop_eq_nil_of_le hlen] at hr
    obtain ⟨ck, rfl, rfl⟩ := compL_nil hr
    rw [List.append_nil] at hys
    subst hys
    refine iter_end hh ci.rel ci.it ck hx fun h' tk he => ?_
    have gD' : h'.get? D = some (listO vs nn) := he D _ hDI gD
    have st : Step ρ s.heap ρ h' := Step.ext gI he iO.not.1 iO.not.2
    have bI : cx.h₀.get? I = none := lvB.none hI
    have R' : Rel cx H ρ { s with heap := h', toks := tk } := ci.rel.same st (fun b o ho eb => he b o (fun w => ci.nI (w ▸ ho)) eb) fun b o eb => he b o (fun w => by rw [w, bI] at eb; exact nomatch eb) (ci.rel.base b o eb)
    obtain ⟨R2, v2⟩ := Rel.adopt (s := { s with heap := h', toks := tk }) R' gD' (rD.step st) (Nat.le_of_lt hz) ci.nD (lvB.none hD)
    have F2 : Full ρ₁ s₁.heap ρ h' := ci.full.fresh hI he
    obtain ⟨m, hm⟩ := eok.st.loc
    have nIl : I ≠ cenv.locals := eok.st.notLoc gI iO.notDict
    refine k _ _ (F2.addOwn ⟨hD, hD⟩) R2 v2 ⟨m, Heap_Ns_keep hm fun o eo => ⟨o, he _ o (fun w => nIl w.symm) eo, rfl⟩⟩ ?_
    intro ⟨p, hp, h⟩
    rcases List.mem_append.mp hp with hp | hp
    · exact eok.st.locN ⟨p, hp, h⟩
    · rw [List.mem_singleton.mp hp] at h
      have : cenv.locals = D := by rcases h with h | h <;> exact h
      exact eok.st.notLoc gD (fun es k q => by cases q) this.symm
  | some m =>
    have lt : i < xs.length := (List.getElem?_eq_some_iff.mp hx).1
    have hdrop : xs.drop i = m :: xs.drop (i + 1) := by
      rw [List.drop_eq_getElem_cons lt]
      rw [List.getElem?_eq_getElem lt] at hx
      cases hx; rfl
    rw [hdrop] at hr
    refine hideG fun G kG => ?_
    obtain ⟨ck, r, H3, e1, rest', e2, hrest⟩ := compL_cons hr
    refine kG ?_
    refine iter_item ci.rel ci.it ck hx fun v h' tk hs hlive kk => ?_
    obtain ⟨oI', gI'⟩ := hlive
    have st : Step ρ s.heap ρ h' := Step.but gI' gI hs iO.not.1 iO.not.2
    obtain ⟨vm, it'⟩ := kk st
    have bI : cx.h₀.get? I = none := lvB.none hI
    have R' : Rel cx H ρ { s with heap := h', toks := tk } := ci.rel.but gI' gI hs iO.not.1 iO.not.2 ci.nI bI
    have ext : ∀ b o, b ≠ I → s.heap.get? b = some o → h'.get? b = some o := fun b o nb eb => by rw [hs.2 b nb]; exact eb
    have eok' : EnvOk cx cenv csc ns' (Γ ++ [oo]) ρ h' := eok.but ext (eok.st.notLoc gI iO.notDict) (eok.st.notCell gI iO.notCell) st
    have F' : Full ρ₁ s₁.heap ρ h' := ci.full.fresh hI ext
    have gD' : h'.get? D = some (listO vs nn) := ext D _ hDI gD
    have own : isOwn csc ns' ns.length x = true := (Bool.and_eq_true _ _).mpr ⟨(Bool.or_eq_true _ _).mpr (hxk.imp decide_eq_true decide_eq_true), decide_eq_true hx'⟩
    refine wpAny_assign_Name (store_var (s := { s with heap := h', toks := tk }) (Γ := Γ ++ [oo]) (by rw [List.length_append, hΓ, hl]; rfl) hnd R' eok' own vm fun h2 tk2 FS R2 eok2 hq => ?_)
    refine hideG fun G kG => ?_
    obtain ⟨q, oq, hqd, hqs, gq⟩ := hq
    have set_eq : (Γ ++ [oo]).set ns.length (some m) = Γ ++ [some m] := by
      rw [← hΓ, List.set_append_right _ _ (Nat.le_refl _), Nat.sub_self]; rfl
    rw [set_eq] at eok2
    have qfresh : s₁.heap.get? q = none := by
      rcases hqd with ⟨_, rfl⟩ | ⟨w1, w2⟩
      · exact hC
      · exact hX q w1 w2
    have ext2 : ∀ b o, b ≠ q → h'.get? b = some o → h2.get? b = some o := fun b o nb eb => by rw [hqs.2 b nb]; exact eb
    have F2 : Full ρ₁ s₁.heap ρ h2 := F'.fresh qfresh ext2
    have qD : D ≠ q := by
      rcases hqd with ⟨_, rfl⟩ | ⟨w1, w2⟩
      · exact eok'.st.notLoc gD' (fun es k q => by cases q)
      · exact fun w => eok'.st.notCell gD' (fun v q => by cases q) x (w ▸ w2)
    obtain ⟨oI2, gI2, iO2⟩ := it'.obj
    refine kG ?_
    have qI : I ≠ q := by
      rcases hqd with ⟨_, rfl⟩ | ⟨w1, w2⟩
      · exact eok'.st.notLoc gI2 iO2.notDict
      · exact fun w => eok'.st.notCell gI2 iO2.notCell x (w ▸ w2)
    have St2 : Step ρ h' ρ h2 := FullS.step eok'.st FS
    have it2 : ItOk cx xs I (i + 1) ρ h2 src := it'.step St2 fun o eo => ext2 I o qI eo
    have rD2 : VRs cx ρ h2 done vs := (rD.step st).step St2
    have gD2 : h2.get? D = some (listO vs nn) := ext2 D _ qD gD'
    have lenG : (Γ ++ [some m]).length = ns'.length := by rw [List.length_append, hΓ, hl]; rfl
    -- the tests
    obtain ⟨b, H4, e3, e4⟩ := stepOf_ok e1
    have T := tests (Γ ++ [some m]) lenG H ρ { s with heap := h2, toks := tk2 } R2 ⟨eok2, fr.full F2⟩
    rw [e3] at T
    refine wpAny_mono T (fun b' s3 ⟨ρ3, F3, R3, hb⟩ => ?_) fun _ _ q => q.elim
    have hb' : b' = b := hb
    refine Eq.symm hb' ▸ ?_
    have F3' : Full ρ₁ s₁.heap ρ3 s3.heap := F2.trans F3
    have gD3 : s3.heap.get? D = some (listO vs nn) := F3.keep.exact gD2 ci.nD (fun es k q => by cases q)
    have nD3 : ¬ Owned ρ3 D := F3.grow.not ci.nD gD2
    obtain ⟨oI3, gI3, iO3⟩ := it2.obj
    have it3 : ItOk cx xs I (i + 1) ρ3 s3.heap src := it2.step F3.step fun o eo => by
      rw [gI3] at eo; cases eo
      exact F3.keep.exact gI3 ci.nI iO3.notDict
    have nI3 : ¬ Owned ρ3 I := F3.grow.not ci.nI gI3
    have rD3 : VRs cx ρ3 s3.heap done vs := rD2.step F3.step
    have eok3 : EnvOk cx cenv csc ns' (Γ ++ [some m]) ρ3 s3.heap := eok2.full F3
    rcases e4 with ⟨rfl, rfl, rfl⟩ | ⟨rfl, y, e4, rfl⟩
    · skip
      exact ⟨xs.length + 1 - (i + 1), by omega, (hInv _ _).mpr ⟨i + 1, done, H4, ρ3, rest', ⟨F3', R3, ⟨_, eok3⟩, it3, ⟨vs, nn, gD3, rD3⟩, nD3, nI3⟩, lt, rfl, e2, by rw [← hys, hrest]⟩⟩
    · skip
      have T2 := elts (Γ ++ [some m]) lenG H4 ρ3 s3 R3 ⟨eok3, fr.full F3'⟩
      rw [e4] at T2
      refine wpAny_mono T2 (fun yv s4 ⟨ρ4, F4, R4, hy⟩ => ?_) fun _ _ q => q.elim
      have F4' : Full ρ₁ s₁.heap ρ4 s4.heap := F3'.trans F4
      have gD4 : s4.heap.get? D = some (listO vs nn) := F4.keep.exact gD3 nD3 (fun es k q => by cases q)
      have nD4 : ¬ Owned ρ4 D := F4.grow.not nD3 gD3
      obtain ⟨oI4, gI4, iO4⟩ := it3.obj
      have it4 : ItOk cx xs I (i + 1) ρ4 s4.heap src := it3.step F4.step fun o eo => by
        rw [gI4] at eo; cases eo
        exact F4.keep.exact gI4 nI3 iO4.notDict
      have nI4 : ¬ Owned ρ4 I := F4.grow.not nI3 gI4
      have rD4 : VRs cx ρ4 s4.heap done vs := rD3.step F4.step
      have eok4 := eok3.full F4
      have hlenD : vs.length < sizeLine := by
        rw [← rD.length]
        have : ys.length = done.length + rest.length := by rw [← hys, List.length_append]
        have : done.length < ys.length := by rw [this, hrest]; simp
        omega
      refine append_at gD4 (Nat.le_of_lt hlenD) fun h5 n5 gD5 hs5 => ?_
      have St5 : Step ρ4 s4.heap ρ4 h5 := Step.but gD5 gD4 hs5 listO_not.1 listO_not.2
      have ext5 : ∀ b o, b ≠ D → s4.heap.get? b = some o → h5.get? b = some o := fun b o nb eb => by rw [hs5.2 b nb]; exact eb
      have R5 : Rel cx H3 ρ4 { s4 with heap := h5 } := R4.but (tk := s4.toks) gD5 gD4 hs5 listO_not.1 listO_not.2 nD4 (lvB.none hD)
      refine ⟨xs.length + 1 - (i + 1), by omega, (hInv _ _).mpr ⟨i + 1, done ++ [y], H3, ρ4, rest', ⟨F4'.fresh hD ext5, R5, ⟨_, eok4.but ext5 (eok4.st.notLoc gD4 (fun es k q => by cases q)) (eok4.st.notCell gD4 (fun v q => by cases q)) St5⟩, it4.step St5 fun o eo => ext5 I o (fun w => hDI w.symm) eo, ⟨_, _, gD5, (rD4.step St5).append (.one (hy.step St5))⟩, nD4, nI4⟩, lt, rfl, e2, ?_⟩⟩
      rw [← hys, hrest, List.append_assoc]; rfl
end
end Mine
-- part MCompE
namespace Mine
open PySem
theorem foldedSet_of {i : Expr} (h : notSet i = true) (env : Env) (x : Value) : foldedSetIterable i env x = pure x := by
  cases i <;> first | rfl | exact no_true h
section
variable {cx : Cx} {N : Names} {A : Around} {env : Env} {sc csc : Scope} {ns : List (Option Str)} {Γ : Env'} {H : Hp} {ρ ρ' : Rho} {s : Shared} {Φ : Funs} {l : List Env} {x : Str} {cond : MEo} {elt : ME} {ifs : List Expr} {e : Expr}
theorem Rel.ext (R : Rel cx H ρ s) {h' : Heap} {tk : Nat} {a : Addr} {o : Obj} (e : s.heap.get? a = some o) (hs : Heap.ExtBut a s.heap h') (n1 : ¬ Fixed o) (n2 : ∀ C, ¬ IsExcO o C) (no : ¬ Owned ρ a) (nb : cx.h₀.get? a = none) :
    Rel cx H ρ { s with heap := h', toks := tk } :=
  R.same (Step.ext e hs n1 n2) (fun b ob ho eb => hs b ob (fun q => no (q ▸ ho)) eb) fun b ob eb => hs b ob (fun q => by subst q; rw [nb] at eb; cases eb) (R.base b ob eb)
theorem iter_self {xs : List Val} {I : Addr} {i : Nat} {src : Option Nat} (x : ItOk cx xs I i ρ s.heap src) {Q : Value → Shared → Prop} {E : Value → Shared → Prop} (k : Q (.ref I) s) : wpAny (model cx.prog cx.w) A (pyIter (.ref I)) Q E s := by
  cases x with
  | list hp hi => exact wpAny_pyIter_listiter hi k
  | tup e n r hi => exact wpAny_pyIter_tupleiter hi k
  | script e r hi => exact wpAny_pyIter_listiter hi k
  | rng e hi => exact wpAny_pyIter_rangeiter hi k
  | str e ht hs =>
    rcases ht with rfl | rfl
    · exact wpAny_pyIter_striter_ascii hs k
    · exact wpAny_pyIter_striter_wide hs k
structure CParts (cx : Cx) (A : Around) (Φ : Funs) (l : List Env) (csc : Scope) (ns' : List (Option Str)) (cond : MEo) (elt : ME) (ifs : List Expr) (e : Expr) : Prop where
  tests : ∀ (cenv : Env) (Γ' : Env'), Γ'.length = ns'.length → Sim cx A ((Amb.env cx cenv csc ns' Γ').and (Amb.frames cx l)) (forIn ifs true fun c r => if r = true then do let ok ← isTrue c cenv (eval c cenv); pure (ForInStep.yield ok) else pure (ForInStep.yield r)) (evalC cx.T Φ cond Γ') BV
  elts : ∀ (cenv : Env) (Γ' : Env'), Γ'.length = ns'.length → Sim cx A ((Amb.env cx cenv csc ns' Γ').and (Amb.frames cx l)) (eval e cenv) (evalE cx.T Φ elt Γ') (Amb.vr cx)
theorem inner_inj (hnd : ∀ (i j : Nat) (y : Str), ns[i]? = some (some y) → ns[j]? = some (some y) → i = j) (hx : csc.names.lookup x = some .local ∨ csc.names.lookup x = some .cell) :
    ∀ (i j : Nat) (y : Str), (inner csc ns ++ [some x])[i]? = some (some y) → (inner csc ns ++ [some x])[j]? = some (some y) → i = j := by
  have lenN : (inner csc ns).length = ns.length := by unfold inner; rw [List.length_map]
  have at' : ∀ (i : Nat) (y : Str), (inner csc ns ++ [some x])[i]? = some (some y) → (ns[i]? = some (some y) ∧ csc.names.lookup y = some .free) ∨ (i = ns.length ∧ y = x) := by
    intro i y h
    by_cases lt : i < ns.length
    · rw [List.getElem?_append_left (by rw [lenN]; exact lt)] at h
      exact .inl (inner_at h)
    · rw [List.getElem?_append_right (by rw [lenN]; omega), lenN] at h
      cases q : i - ns.length with
      | zero => rw [q] at h; simp at h; exact .inr ⟨by omega, h.symm⟩
      | succ n => rw [q] at h; simp at h
  intro i j y hi hj
  rcases at' i y hi with ⟨a1, a2⟩ | ⟨a1, a2⟩ <;> rcases at' j y hj with ⟨b1, b2⟩ | ⟨b1, b2⟩
  · exact hnd i j y a1 b1
  · subst b2; rcases hx with w | w <;> rw [w] at a2 <;> cases a2
  · subst a2; rcases hx with w | w <;> rw [w] at b2 <;> cases b2
  · omega
theorem comp_block (hh : A.handled = none) (hc : compOk sc csc x = true) (hnd : ∀ (i j : Nat) (y : Str), ns[i]? = some (some y) → ns[j]? = some (some y) → i = j) (hΓ : Γ.length = ns.length)
    (pt : CParts cx A Φ l csc (inner csc ns ++ [some x]) cond elt ifs e)
    {v : Val} {xv : Value} {xs ys : List Val} {src : Option Nat} {H₂ : Hp} {px pos : Pos} {iter : Expr} {RR : Value → Addr → Result → Shared → Prop} {E : Value → Shared → Prop}
    (R : Rel cx H ρ s) (e0 : EnvOk cx env sc ns Γ ρ s.heap) (fr : FramesOk cx l ρ s.heap) (vr : VR cx ρ s.heap v xv) (hit : iterOf v H = some (xs, src)) (hres : compL (chk src xs) (stepOf cx.T Φ cond elt Γ) xs H = .ok ys H₂) (hz : ys.length < sizeLine)
    (k : ∀ D C ρ' s', Full ρ s.heap ρ' s'.heap → Rel cx (H₂ ++ [.list ys]) ρ' s' → VR cx ρ' s'.heap (.loc H₂.length) (.ref D) → (∃ m, s'.heap.Ns C m) → ¬ Owned ρ' C → s.heap.get? C = none → RR (.ref D) C (.ok .next) s') :
    wpAny (model cx.prog cx.w) A (pyIter xv) (fun it s₂ => wpAny (model cx.prog cx.w) A (newList []) (fun acc s₃ => wpAny (model cx.prog cx.w) A (newFunctionEnv csc env.globals (cloOf env csc.names []) [] env.qual none .none (some env)) (fun cenv s₄ =>
      codeAny (model cx.prog cx.w) A (.compStart (.ListComp e [⟨.Name x px, iter, ifs, 0⟩] csc pos) 0 it acc { cenv with scope := relabel csc env }) (RR acc cenv.locals) s₄) E s₃) E s₂) E s := by
  obtain ⟨c1, c2, c3⟩ := compOk_parts hc
  have lvB : Live cx.h₀ s.heap := fun b o e => ⟨o, R.base b o e⟩
  refine iter_start R vr hit fun o go it0 => ?_
  refine wpAny_newObj_type ?_
  refine wpAny_newCompEnv _ ?_
  -- the three heaps
  generalize hs1 : ({ s with heap := s.heap.push o } : Shared) = s1 at it0
  have h1 : s1.heap = s.heap.push o := by rw [← hs1]
  have F1 : Full ρ s.heap ρ s1.heap := by rw [h1]; exact Full.push _ _ _
  have R1 : Rel cx H ρ s1 := by rw [← hs1]; exact R.push o s.toks
  generalize hs2 : ({ s1 with heap := s1.heap.push (listO [] 0) } : Shared) = s2
  have h2 : s2.heap = s1.heap.push (listO [] 0) := by rw [← hs2]
  have F2 : Full ρ s1.heap ρ s2.heap := by rw [h2]; exact Full.push _ _ _
  have R2 : Rel cx H ρ s2 := by rw [← hs2]; exact R1.push (listO [] 0) s1.toks
  have z1 : s1.heap.objs.size = s.heap.objs.size + 1 := by rw [h1, Heap.size_push]
  have z2 : s2.heap.objs.size = s.heap.objs.size + 2 := by rw [h2, Heap.size_push, z1]
  have F12 : Full ρ s.heap ρ s2.heap := F1.trans F2
  have e2 : EnvOk cx env sc ns Γ ρ s2.heap := e0.full F12
  obtain ⟨ce, cf⟩ := comp_env R2 e2 hc hΓ
  have F3 : Full ρ s2.heap ρ (compHeap csc s2.heap) := Full.more (compHeap_keep csc s2.heap)
  have R3 : Rel cx H ρ { s2 with heap := compHeap csc s2.heap } := R2.more (tk := s2.toks) (compHeap_keep csc s2.heap)
  have hDn : s.heap.get? s1.heap.objs.size = none := fresh_le (by rw [z1]; exact Nat.le_succ _)
  have hIn : s.heap.get? s.heap.objs.size = none := fresh_none _
  have hCn : s.heap.get? s2.heap.objs.size = none := fresh_le (by rw [z2]; exact Nat.le_add_right _ _)
  have gD2 : s2.heap.get? s1.heap.objs.size = some (listO [] 0) := by rw [h2]; exact Heap.get?_push_size _ rfl
  have it1 : ItOk cx xs s.heap.objs.size 0 ρ s1.heap src := by rw [h1]; exact it0
  have go1 : s1.heap.get? s.heap.objs.size = some o := by rw [h1]; exact go
  have it3 : ItOk cx xs s.heap.objs.size 0 ρ (compHeap csc s2.heap) src := (it1.step F2.step fun o' eo => by rw [h2]; exact Heap.get?_push_of_some _ eo).step F3.step (compHeap_keep csc s2.heap _)
  have ci : CInv cx ρ s.heap s1.heap.objs.size s.heap.objs.size (compEnv csc env s2.heap.objs.size) csc (inner csc ns ++ [some x]) Γ xs src 0 [] H ρ { s2 with heap := compHeap csc s2.heap } :=
    ⟨F12.trans F3, R3, ⟨none, ce⟩, it3, ⟨[], 0, compHeap_keep csc s2.heap _ _ gD2, .nil⟩, R.fresh_not hDn, R.fresh_not hIn⟩
  have loop : codeAny (model cx.prog cx.w) A (.compLoop (.ListComp e [⟨.Name x px, iter, ifs, 0⟩] csc pos) 0 (.ref s.heap.objs.size) (.ref s1.heap.objs.size) (compEnv csc env s2.heap.objs.size)) (RR (.ref s1.heap.objs.size) s2.heap.objs.size) { s2 with heap := compHeap csc s2.heap } := by
    have lenN : (inner csc ns).length = ns.length := by unfold inner; rw [List.length_map]
    refine comp_loop (by rw [List.length_append, lenN]; rfl) (by rw [List.getElem?_append_right (by rw [lenN]; exact Nat.le_refl _), lenN, Nat.sub_self]; rfl) (s₁ := s) (ρ₁ := ρ) (l := l) hh hDn hIn (by rw [z1]; exact Nat.succ_ne_self _) hCn (fun q w1 w2 => ?_) (inner_inj hnd c2) hΓ c2 fr lvB (fun Γ' h' => pt.tests _ Γ' h') (fun Γ' h' => pt.elts _ Γ' h') hz ci hres fun ρ' s' F' R' v' m' n' => ?_
    · have := cf q w1 w2
      cases g : s.heap.get? q with
      | none => rfl
      | some ob =>
        obtain ⟨o', eo'⟩ := F12.live q ob g
        rw [this] at eo'; exact no_some eo'
    · exact k _ _ ρ' s' F' R' v' m' n' hCn
  have key := codeAny_compStart_list loop (iter_self (ρ := ρ) (s := { s2 with heap := compHeap csc s2.heap }) it3 loop)
  refine Eq.symm hs2 ▸ ?_
  exact key
theorem compPost_mono {E E' : Value → Shared → Prop} {use : Option (Value → Sem Unit)} {Q Q' : Value → Shared → Prop} {acc : Value} {C : Addr} {r : Result} {s' : Shared} {M : Model} (h : compPost M A E use Q acc C r s') (k1 : ∀ a s, Q a s → Q' a s) (k2 : ∀ e s, E e s → E' e s) : compPost M A E' use Q' acc C r s' := by
  unfold compPost at h ⊢
  cases r with
  | ok f =>
    cases use with
    | none => obtain ⟨m, hm, h⟩ := h; exact ⟨m, hm, fun h' hs => k1 _ _ (h h' hs)⟩
    | some u => exact wpAny_mono h (fun _ s'' ⟨m, hm, h⟩ => ⟨m, hm, fun h' hs => k1 _ _ (h h' hs)⟩) k2
  | error x =>
    cases use with
    | none => obtain ⟨m, hm, h⟩ := h; exact ⟨m, hm, fun h' hs c hc => wpAny_mono (h h' hs c hc) (fun _ _ q => q) k2⟩
    | some u => obtain ⟨m, hm, h⟩ := h; exact ⟨m, hm, fun h' hs c hc => wpAny_mono (h h' hs c hc) (fun _ _ q => q) k2⟩
theorem quiet_ok {α : Type} {m : M α} {H H' : Hp} {a : α} (h : M.quiet m H = .ok a H') : m H = .ok a H' := by
  delta M.quiet at h
  cases e : m H with
  | exc c K => rw [e] at h; exact no_bad h
  | _ => rw [e] at h; exact h
theorem quiet_exc {α : Type} {m : M α} {H H' : Hp} {c : Nat} (h : M.quiet m H = .exc c H') : False := by
  delta M.quiet at h
  cases e : m H with
  | _ => rw [e] at h; cases h
noncomputable def compRest (T : Tab) (Φ : Funs) (cond : MEo) (elt : ME) (Γ : Env') (v : Val) : M Val := (M.look (iterOf v)).bnd fun p =>
  (M.quiet (compL (chk p.2 p.1) (stepOf T Φ cond elt Γ) p.1)).bnd fun ys => if ys.length < lid then M.alloc (.list ys) else .bad
theorem comp_eval (T : Tab) (Φ : Funs) (cond : MEo) (elt it : ME) (Γ : Env') : evalE T Φ (.comp elt it cond) Γ = (evalE T Φ it Γ).bnd (compRest T Φ cond elt Γ) := by
  rfl
theorem compRest_cases {T : Tab} {Φ : Funs} {cond : MEo} {elt : ME} {Γ : Env'} {v : Val} {H : Hp} : compRest T Φ cond elt Γ v H = .bad ∨
    ∃ xs src ys H₂, iterOf v H = some (xs, src) ∧ compL (chk src xs) (stepOf T Φ cond elt Γ) xs H = .ok ys H₂ ∧ ys.length < sizeLine ∧ compRest T Φ cond elt Γ v H = .ok (.loc H₂.length) (H₂ ++ [.list ys]) := by
  unfold compRest
  cases e1 : iterOf v H with
  | none => left; rw [bnd_bad (look_none e1)]
  | some p =>
    rw [bnd_ok (look_some e1)]
    obtain ⟨xs, src⟩ := p
    dsimp only
    cases e2 : M.quiet (compL (chk src xs) (stepOf T Φ cond elt Γ) xs) H with
    | bad => left; rw [bnd_bad e2]
    | exc c H' => exact (quiet_exc e2).elim
    | ok ys H₂ =>
      rw [bnd_ok e2]
      by_cases q : ys.length < lid
      · right
        refine ⟨xs, src, ys, H₂, rfl, quiet_ok e2, by skip; exact q, ?_⟩
        rw [if_pos q]; rfl
      · left; rw [if_neg q]; rfl
theorem nsO_not {h : Heap} {C : Addr} {m : Str → Option Value} (n : h.Ns C m) : ∃ o, h.get? C = some o ∧ ¬ Fixed o ∧ ∀ D, ¬ IsExcO o D := by
  refine hideG fun G kG => ?_
  obtain ⟨o, es, ep, e, d, _⟩ := n
  refine kG ?_
  exact ⟨o, e, fun f => f.notDict _ _ d, fun D f => f.notDict _ _ d⟩
theorem eok_comp (hh : A.handled = none) {it : ME} {i : Expr} {px pos : Pos} (hi : notSet i = true) (hc : compOk sc csc x = true) (hnd : ∀ (i j : Nat) (y : Str), ns[i]? = some (some y) → ns[j]? = some (some y) → i = j) (hΓ : Γ.length = ns.length)
    (pt : CParts cx A Φ l csc (inner csc ns ++ [some x]) cond elt ifs e) (y : EOk cx A ((Amb.env cx env sc ns Γ).and (Amb.frames cx l)) Φ env Γ it i) :
    EOk cx A ((Amb.env cx env sc ns Γ).and (Amb.frames cx l)) Φ env Γ (.comp elt it cond) (.ListComp e [⟨.Name x px, i, ifs, 0⟩] csc pos) := by
  obtain ⟨c1, c2, c3⟩ := compOk_parts hc
  refine EOk.of ?_ rfl
  intro H ρ s R p
  rw [comp_eval]
  refine SimAt.bindK (K' := fun Q E s => wpAny (model cx.prog cx.w) A (eval (.ListComp e [⟨.Name x px, i, ifs, 0⟩] csc pos) env) Q E s)
    (K := fun xv Q E s => wpAny (model cx.prog cx.w) A (pyIter xv) (fun it s₂ => wpAny (model cx.prog cx.w) A (newList []) (fun acc s₃ => wpAny (model cx.prog cx.w) A (newFunctionEnv csc env.globals (cloOf env csc.names []) [] env.qual none .none (some env)) (fun cenv s₄ =>
      codeAny (model cx.prog cx.w) A (.compStart (.ListComp e [⟨.Name x px, i, ifs, 0⟩] csc pos) 0 it acc { cenv with scope := relabel csc env }) (compPost (model cx.prog cx.w) A E none Q acc cenv.locals) s₄) E s₃) E s₂) E s) (y.val H ρ s R p) ?_ ?_ ?_
  · intro b xv H1 ρ1 s1 _ F1 R1 vr
    rcases compRest_cases (T := cx.T) (Φ := Φ) (cond := cond) (elt := elt) (Γ := Γ) (v := b) (H := H1) with w | ⟨xs, src, ys, H₂, w1, w2, w3, w4⟩
    · rw [w]; trivial
    · rw [w4]
      refine comp_block hh hc hnd hΓ pt R1 (p.1.full F1) (p.2.full F1) vr w1 w2 w3 fun D C ρ' s' F' R' v' m' n' hC => ?_
      refine hideG fun G kG => ?_
      obtain ⟨m, hm⟩ := m'
      obtain ⟨oC, gC, nf, nx⟩ := nsO_not hm
      refine kG ?_
      have lvB : Live cx.h₀ s1.heap := fun b o e => ⟨o, R1.base b o e⟩
      refine ⟨m, hm, fun h' hs => ?_⟩
      have st : Step ρ' s'.heap ρ' h' := Step.ext gC hs.extBut nf nx
      exact ⟨ρ', F'.fresh hC hs.extBut, R'.ext (tk := s'.toks) gC hs.extBut nf nx n' (lvB.none hC), v'.step st⟩
  · intro xv Q E Q' E' s h k1 k2
    exact wpAny_mono h (fun it s₂ h2 => wpAny_mono h2 (fun acc s₃ h3 => wpAny_mono h3 (fun cenv s₄ h4 => codeAny_mono h4 fun r s' hr => compPost_mono hr k1 k2) k2) k2) k2
  · intro Q E h
    exact wpAny_comprehension_free (use := none) (g := ⟨.Name x px, i, ifs, 0⟩) (gs := []) rfl (fun xv => foldedSet_of hi env xv)
      (closureFor_eq fun p' hp' hf => p.1.st.hasCell p'.1 (by rcases (c3 p' hp').2 hf with w | w; exact .inl w; exact .inr w)) c1 (fun p' hp' hl => by rw [(c3 p' hp').1, hl]) h
end
end Mine
-- part MInst
namespace Mine
open PySem
section
variable {cx : Cx} {N : Names} {A : Around} {Φ : Funs} {l : List Env} {d : Nat} {env : Env} {sc : Scope} {ns : List (Option Str)} {Γ : Env'} {H : Hp} {ρ : Rho} {s : Shared}
theorem VR.handed {m : Val} {v : Value} {h : Heap} (x : VR cx ρ h m v) : handedOut v = pure v := by cases x <;> rfl
theorem Rel.instAt (R : Rel cx H ρ s) {i c : Nat} {fs : List (Nat × Val)} {p : Addr × Addr} (hH : H[i]? = some (.inst c fs)) (hρ : ρ[i]? = some p) :
    ∃ C o mA, (cx.T.meth c 0).isSome = true ∧ cx.cls[c]? = some (.ref C) ∧ s.heap.get? p.1 = some o ∧ o.cls = .ref C ∧ (∀ c, o.data ≠ .cls c) ∧ o.dict = some p.2 ∧ p.2 ≠ p.1 ∧ s.heap.Ns1 p.2 mA ∧
      (∀ n v, fs.lookup n = some v → ∃ y x, cx.attrs[n]? = some y ∧ mA y = some x ∧ VR cx ρ s.heap v x) ∧ (∀ y, mA y ≠ none → ∃ n v, cx.attrs[n]? = some y ∧ fs.lookup n = some v) := by
  have := R.objs i _ p hH hρ
  generalize ho : HObj.inst c fs = o at this
  cases this with
  | list _ _ _ => exact nomatch ho
  | dict _ _ _ => cases ho
  | hid _ => cases ho
  | inst k0 k e k1 k2 k3 k4 n f g => cases ho; exact ⟨_, _, _, k0, k, e, k1, k2, k3, k4, n, f, g⟩
theorem inst_of {h : Heap} {a b C : Addr} {o : Obj} {mA : Str → Option Value} (e : h.get? a = some o) (k1 : o.cls = .ref C) (k2 : ∀ c, o.data ≠ .cls c) (k3 : o.dict = some b) (k4 : b ≠ a) (n : h.Ns1 b mA) : h.Inst a C mA :=
  ⟨o, e, k1, k2, .inr ⟨b, k3, k4, n⟩⟩
theorem SimK.looks {α β : Type} {f : Hp → Option β} {K : (α → Shared → Prop) → (Value → Shared → Prop) → Shared → Prop} {V : β → α → Amb} (y : ∀ b, f H = some b → SimK cx (.ok b H) K V ρ s) : SimK cx (M.look f H) K V ρ s := by
  cases e : f H with
  | none => rw [look_none e]; trivial
  | some b => rw [look_some e]; exact y b e
theorem wp_getattr (CB : ClsBase cx N) (R : Rel cx H ρ s) {i c n : Nat} {fs : List (Nat × Val)} {p : Addr × Addr} {y : Str} {m : Val} (hH : H[i]? = some (.inst c fs)) (hρ : ρ[i]? = some p) (hy : cx.attrs[n]? = some y) (hm : fs.lookup n = some m) {Q : Value → Shared → Prop} {E : Value → Shared → Prop}
    (k : ∀ v tk, VR cx ρ s.heap m v → Q v { s with toks := tk }) : wpAny (model cx.prog cx.w) A (getAttr (.ref p.1) y true) Q E s := by
  refine hideG fun G kG => ?_
  obtain ⟨C, o, mA, k0, kc, e, k1, k2, k3, k4, nn, f, g⟩ := R.instAt hH hρ
  obtain ⟨nm, q, Nn, bs, sn, sub, col, dd, q0, q1, q2, q3, q5, mN, hC, hN, h1, h2, h3, h4, h5⟩ := (CB.cls c C kc k0).is
  obtain ⟨y', x, hy', hx, vr⟩ := f n m hm
  refine kG ?_
  rw [hy] at hy'; cases hy'
  exact load_attr (R.base _ _ hC) (hN.keeps R.base) h1 (h4 n y hy).1 (h4 n y hy).2 (inst_of e k1 k2 k3 k4 nn) hx vr.handed (k x _ vr)
set_option tactic.hygienic true in
theorem eok_attr (CB : ClsBase cx N) {P : Amb} {a : ME} {n : Nat} {v : Expr} {y : Str} {pos : Pos} (hn : hasNo N.attrs y n = true) (hs : notSuper v = true) (x : EOk cx A P Φ env Γ a v) :
    EOk cx A P Φ env Γ (.attr a n) (.Attribute v y pos) := by
  refine EOk.of ?_ rfl
  intro H ρ s R p
  refine SimAt.bindK (K' := fun Q E s => wpAny (model cx.prog cx.w) A (eval (.Attribute v y pos) env) Q E s) (K := fun o Q E s => wpAny (model cx.prog cx.w) A (getAttr o y true) Q E s) (x.val H ρ s R p) ?_ (fun _ => monoK_wp _) ?_
  · intro b o H1 ρ1 s1 _ F1 R1 vr
    have vr' : VR cx ρ1 s1.heap b o := vr
    refine SimK.looks fun m hm => ?_
    split at hm
    · rename_i i
      obtain ⟨p1, hp1, hr0⟩ := vr'.loc_inv; refine Eq.symm hr0 ▸ ?_
      split at hm
      · rename_i c fs hi
        exact wp_getattr CB R1 hi hp1 (CB.attr y n (hasNo_eq hn)) hm fun v tk vr => ⟨ρ1, Full.refl _ _, R1.toks tk, vr⟩
      · exact no_some hm
    · exact no_some hm
  · intro Q E h
    rw [arm_eval_Attribute, attributeBase_of hs]
    exact wpAny_bind (wpAny_mono h (fun o s₁ h₁ => wpAny_bind (wpAny_standAt (wpAny_bind (wpAny_holding (wpAny_mono h₁ (fun r s₂ h₂ => wpAny_bind (wpAny_letTemporaryGo (wpAny_pure h₂))) fun _ _ q => q))))) fun _ _ q => q)
theorem fput_self : ∀ (fs : List (Nat × Val)) (n : Nat) (v : Val), (fput fs n v).lookup n = some v
  | [], n, v => by
    show List.lookup n [(n, v)] = _
    simp
  | (m, u) :: r, n, v => by
    rw [fput_cons]
    by_cases e : m = n
    · rw [if_pos e, e]; simp
    · rw [if_neg e, List.lookup_cons]
      have : (n == m) = false := by simpa using fun q : n = m => e q.symm
      rw [this]; exact fput_self r n v
theorem fput_other : ∀ (fs : List (Nat × Val)) (n k : Nat) (v : Val), k ≠ n → (fput fs n v).lookup k = fs.lookup k
  | [], n, k, v, h => by
    have : (k == n) = false := by simpa using h
    show List.lookup k [(n, v)] = none
    rw [List.lookup_cons, this]; rfl
  | (m, u) :: r, n, k, v, h => by
    rw [fput_cons]
    by_cases e : m = n
    · rw [if_pos e, e, List.lookup_cons, List.lookup_cons]
      have : (k == n) = false := by simpa using h
      rw [this]
    · rw [if_neg e, List.lookup_cons, List.lookup_cons, fput_other r n k v h]
theorem wp_setattr (CB : ClsBase cx N) (R : Rel cx H ρ s) {i c n : Nat} {fs : List (Nat × Val)} {p : Addr × Addr} {y : Str} {m : Val} {v : Value} (hH : H[i]? = some (.inst c fs)) (hρ : ρ[i]? = some p) (hy : cx.attrs[n]? = some y) (vr : VR cx ρ s.heap m v) {Q : Unit → Shared → Prop} {E : Value → Shared → Prop}
    (k : ∀ s', Full ρ s.heap ρ s'.heap → Rel cx (H.set i (.inst c (fput fs n m))) ρ s' → Q () s') : wpAny (model cx.prog cx.w) A (setAttr (.ref p.1) y v) Q E s := by
  refine hideG fun G kG => ?_
  obtain ⟨C, o, mA, k0, kc, e, k1, k2, k3, k4, nn, f, g⟩ := R.instAt hH hρ
  obtain ⟨nm, q, Nn, bs, sn, sub, col, dd, q0, q1, q2, q3, q5, mN, hC, hN, h1, h2, h3, h4, h5⟩ := (CB.cls c C kc k0).is
  refine kG ?_
  have hxC : p.1 ≠ C := fun w => by have := (R.new p (List.mem_of_getElem? hρ)).1; rw [w, hC] at this; cases this
  refine store_attr F.store_object (R.base _ _ hC) (hN.keeps R.base) h3 (h4 n y hy).1 (h4 n y hy).2 hxC (inst_of e k1 k2 k3 k4 nn) (fun h' tk' I' hk hsame => ?_)
    (ns := cx.attrs) (fun z hz => by obtain ⟨j, _, hj, _⟩ := g z hz; exact List.mem_of_getElem? hj) CB.few
  refine hideG fun G kG => ?_
  obtain ⟨o₁, e1, c1, d1, _, dd1⟩ := hsame o e
  obtain ⟨o₂, e2, c2, n2, hd2⟩ := I'
  refine kG ?_
  rw [e1] at e2; cases e2
  have nn' : h'.Ns1 p.2 (fun z => if z = y then some v else mA z) := by
    rcases hd2 with ⟨w, _⟩ | ⟨b, w, _, w2⟩
    · rw [dd1 _ k3] at w; cases w
    · rw [dd1 _ k3] at w; cases w; exact w2
  have keep : ∀ b ob, s.heap.get? b = some ob → b ≠ p.1 → b ≠ p.2 → h'.get? b = some ob := fun b ob eb w1 w2 => hk b ob w1 (fun o₀ dx f1 f2 => by rw [e] at f1; cases f1; rw [k3] at f2; cases f2; exact w2) eb
  have lv : Live s.heap h' := fun b ob eb => by
    by_cases w1 : b = p.1
    · rw [w1]; exact ⟨o₁, e1⟩
    · by_cases w2 : b = p.2
      · obtain ⟨on, _, _, en, _⟩ := nn'; rw [w2]; exact ⟨on, en⟩
      · exact ⟨ob, keep b ob eb w1 w2⟩
  have own : ∀ b, ¬ Owned ρ b → b ≠ p.1 ∧ b ≠ p.2 := fun b n => ⟨fun e => n ⟨p, List.mem_of_getElem? hρ, .inl e⟩, fun e => n ⟨p, List.mem_of_getElem? hρ, .inr e⟩⟩
  have F : Full ρ s.heap ρ h' := ⟨Grow.refl _ _, fun b ob eb n => ⟨ob, keep b ob eb (own b n).1 (own b n).2, .refl ob⟩, lv⟩
  obtain ⟨_, R'⟩ := R.set (tk := tk') (o := .inst c (fput fs n m)) hρ keep lv (by
    obtain ⟨p1, p2⟩ := p
    refine .inst k0 kc e1 (c1.trans k1) n2 (dd1 _ k3) k4 nn' (fun j u hj => ?_) (fun z hz => ?_)
    · by_cases w : j = n
      · subst w
        rw [fput_self] at hj; cases hj
        exact ⟨y, v, hy, by simp, vr.step F.step⟩
      · rw [fput_other _ _ _ _ w] at hj
        obtain ⟨y', x, hy', hx, vx⟩ := f j u hj
        have ne : y' ≠ y := fun q => w (CB.inj j n y (q ▸ hy') hy)
        exact ⟨y', x, hy', by simp [ne, hx], vx.step F.step⟩
    · by_cases w : z = y
      · exact ⟨n, m, w ▸ hy, fput_self _ _ _⟩
      · simp only [w, if_false] at hz
        obtain ⟨j, u, hj, hu⟩ := g z hz
        have ne : j ≠ n := fun q => w (by rw [q, hy] at hj; cases hj; rfl)
        exact ⟨j, u, hj, by rw [fput_other _ _ _ _ ne]; exact hu⟩)
  exact k _ F R'
theorem wpAny_Call_own {o : Expr} {name : Str} {apos pos : Pos} {args : List Expr} {Q : Value → Shared → Prop} {E : Value → Shared → Prop} (hs : notSuper o = true) (hp : plainArgs env args) (hz : args.length ≤ 20) (hline : (apos.endLine == pos.line) = true)
    (h : wpAny (model cx.prog cx.w) A (eval o env) (fun ov s₁ => ∀ pl, wpAny (model cx.prog cx.w) A (getMethod ov name pl) (fun r s₂ => wpAny (model cx.prog cx.w) A (callWith pos r.1 r.2 (args.map fun e => (false, eval e env)) []) Q E s₂) E s₁) E s) :
    wpAny (model cx.prog cx.w) A (eval (.Call (.Attribute o name apos) args [] pos) env) Q E s := by
  rw [arm_eval_Call, attributeBase_of hs]
  refine wpAny_bind (wpAny_mono h (fun ov s₁ h₁ => ?_) fun _ _ e => e)
  refine wpAny_bind (wpAny_standAt ?_)
  have hform : methodCallForm (args.length + ([] : List Keyword).length) (backTo pos (starEach args env)) (backToKw pos (keywordEach [] env)) = true := plainArgs_few hp hz
  have hpos : methodCallPos true o env apos pos = pure pos := by unfold methodCallPos; simp [hline]
  unfold methodCall
  rw [hform, plainArgs_trees pos hp]
  refine wpAny_bind (wpAny_holding (wpAny_mono (h₁ _) (fun r s₂ h₂ => ?_) fun _ _ e => e))
  exact wpAny_bind (wpAny_of_eq hpos h₂)
theorem umeth_some {T : Tab} {v : Val} {m k : Nat} (h : (match v with | .loc i => (match H[i]? with | some (.inst c _) => T.meth c m | _ => none) | _ => none) = some k) : ∃ i c fs, v = .loc i ∧ H[i]? = some (.inst c fs) ∧ T.meth c m = some k := by
  split at h
  · split at h
    · exact ⟨_, _, _, rfl, by assumption, h⟩
    · exact no_some h
  · exact no_some h
theorem eok_umeth (CB : ClsBase cx N) (hΦ : FunsOk cx Φ d) (room : Room A d) (hfr : A.frames = some l) {a : ME} {m : Nat} {es : MEs} {o : Expr} {y : Str} {apos pos : Pos} {xs : List Expr} (hm : hasNo N.meths y m = true) (hes : ckEs N sc ns es xs = true) (hz : xs.length ≤ 20) (hs : notSuper o = true) (hline : (apos.endLine == pos.line) = true)
    (x : EOk cx A ((Amb.env cx env sc ns Γ).and (Amb.frames cx l)) Φ env Γ a o) (y' : Sim cx A ((Amb.env cx env sc ns Γ).and (Amb.frames cx l)) (spliced (xs.map fun e => (false, eval e env))) (evalEs cx.T Φ es Γ) (Amb.vrs cx)) :
    EOk cx A ((Amb.env cx env sc ns Γ).and (Amb.frames cx l)) Φ env Γ (.umeth a m es) (.Call (.Attribute o y apos) xs [] pos) := by
  refine EOk.of ?_ rfl
  intro H ρ s R p
  first | rw [ev_call] | rw [ev_new] | rw [ev_umeth] | rw [ev_bf] | rw [ev_isinst] | rw [ev_bm]
  refine SimAt.bindK (K' := fun Q E s => wpAny (model cx.prog cx.w) A (eval (.Call (.Attribute o y apos) xs [] pos) env) Q E s) (K := fun ov Q E s => ∀ pl, wpAny (model cx.prog cx.w) A (getMethod ov y pl) (fun r s₂ => wpAny (model cx.prog cx.w) A (callWith pos r.1 r.2 (xs.map fun e => (false, eval e env)) []) Q E s₂) E s) (x.val H ρ s R p) ?_ ?_
    (fun Q E h => wpAny_Call_own hs (ckEs_plain hes) hz hline h)
  · intro b ov H1 ρ1 s1 _ F1 R1 vr
    have vr' : VR cx ρ1 s1.heap b ov := vr
    refine SimK.lookK fun k hk => ?_
    refine hideG fun G kG => ?_
    obtain ⟨i, c, fs, rfl, hi, hk'⟩ := umeth_some hk
    obtain ⟨p1, hp1, rfl⟩ := vr'.loc_inv
    obtain ⟨C, ob, mA, k0, kc, e, k1, k2, k3, k4, nn, f, g⟩ := R1.instAt hi hp1
    obtain ⟨nm, q, Nn, bs, sn, sub, col, dd, q0, q1, q2, q3, q5, mN, hC, hN, h1, h2, h3, h4, h5⟩ := (CB.cls c C kc k0).is
    obtain ⟨fa, fo, fd, hfa, hmN, hfo, hfc, hfd, hna, r, hr⟩ := h5 y m k (hasNo_eq hm) hk'
    refine kG ?_
    have hmA : mA y = none := by
      cases w : mA y with
      | none => rfl
      | some z => obtain ⟨j, _, hj, _⟩ := g y (by rw [w]; exact fun q => nomatch q); exact absurd hj (hna j)
    refine SimK.mono (simK_args (f := .ref fa) (K := fun vs Q E s => (s.heap.get? fa = some fo ∧ fo.data = .func fd) ∧ wpAny (model cx.prog cx.w) A (call (.ref fa) (.ref p1.1 :: vs)) Q E s) (fun e => ckEs_nil (e ▸ hes)) R1 (y' H1 ρ1 s1 R1 (((Amb.env cx env sc ns Γ).and (Amb.frames cx l)).st _ _ _ _ p F1)) ?_ ?_) ?_
    · intro ms vs H2 ρ2 s2 _ F2 R2 vrs
      exact SimK.andK ⟨R2.base _ _ hfo, hfd⟩ (hΦ k fa (.loc i :: ms) (.ref p1.1 :: vs) A l hfa room.toF hfr H2 ρ2 s2 R2 ⟨.cons (VR.step F2.step vr) vrs, (p.2.full F1).full F2⟩)
    · exact fun vs Q E Q' E' s h k1 k2 => ⟨h.1, wpAny_mono h.2 k1 k2⟩
    · intro Q E h pl
      refine method_of (R1.base _ _ hC) (hN.keeps R1.base) h1 h2 hmN (R1.base _ _ hfo) hfc hr (inst_of e k1 k2 k3 k4 nn) hmA ?_
      exact Calls.callWith_function (o := fo) (fd := fd) (wpAny_mono h (fun b s₁ h₁ => by rw [h₁.1]; exact h₁.2) fun _ _ q => q)
  · exact fun ov Q E Q' E' s h k1 k2 pl => wpAny_mono (h pl) (fun r s₂ h₂ => wpAny_mono h₂ k1 k2) k2
theorem callWith_own {nm q : Str} {C Nn : Addr} {bs : List Value} {sn : List Str} {sub : List Value} {col : Option Bool} {dd : Option Addr} {k0 k1 k2 k3 k5 : Option Value} {pos : Pos} {args : List (Bool × Sem Value)} {Q : Value → Shared → Prop} {E : Value → Shared → Prop} (hplain : args.any (·.1) = false)
    (h : wpAny (model cx.prog cx.w) A (evalArgs (.ref C) true args []) (fun as s₁ => as.kw = [] ∧ s₁.heap.get? C = some (excClassObj nm q C Nn bs [.type "object"] true sn sub false col dd k0 k1 k2 k3 k5 "object.__new__") ∧ wpAny (model cx.prog cx.w) A (call (.ref C) as.pos) Q E s₁) E s) :
    wpAny (model cx.prog cx.w) A (callWith pos (.ref C) [] args []) Q E s := by
  unfold callWith
  refine wpAny_bind (wpAny_holding (wpAny_mono h (fun as s₁ h₁ => ?_) fun _ _ x => x))
  obtain ⟨e, hC, hc⟩ := h₁
  obtain ⟨ps, kw⟩ := as
  dsimp only at e hc
  subst e
  obtain ⟨hh, g, dr, t, os⟩ := s₁
  have f1 := tc_lookup
  have hT : (⟨hh, g, dr, t, os⟩ : Shared).TypeIs (.ref C) "type" := ⟨_, hC, rfl⟩
  refine wpAny_bind (wpAny_standAt ?_)
  unfold keeperOf specialOf
  repeat (any_goals (first | assumption | with_reducible refine wpAny_loadPart_at hC ?_ | with_reducible refine wpAny_load' hC ?_ | wp_step))
  rw [if_pos (by rfl), hplain]
  exact wpAny_bind (wpAny_mono hc (fun r s' hr => wpAny_bind (wpAny_holding (wpAny_point (wpAny_pure hr)))) fun _ _ x => x)
theorem Room.made {C : Addr} {vs : List Value} (r : Room A d) : RoomF (A.under (.builtin "type.__call__" ⟨.ref C :: vs, []⟩)) d := by
  refine ⟨r.hh, ?_, ?_⟩
  · show A.depth + 1 + 5 * d + 147 < recursionLimit
    have := r.depth; omega
  · show A.units + 1 + 20 * d + 90 < cLine
    have := r.units; omega
theorem newV_some {T : Tab} {c k : Nat} {ms : List Val} (h : T.meth c 0 = some k) : newV T Φ c ms H = (match Φ k (.loc H.length :: ms) (H ++ [.inst c []]) with
    | .ok r H' => (match r with | .none => Res.ok (.loc H.length) H' | _ => .bad)
    | .exc e H' => .exc e H'
    | .bad => .bad) := by
  unfold newV
  rw [h]
  show M.bnd _ _ _ = _
  rw [bnd_ok (show M.alloc (.inst c []) H = .ok (.loc H.length) (H ++ [.inst c []]) from rfl)]
  cases e : Φ k (.loc H.length :: ms) (H ++ [.inst c []]) with
  | bad => rw [bnd_bad e]
  | exc x H' => rw [bnd_exc e]
  | ok r H' => rw [bnd_ok e]; cases r <;> rfl
theorem simK_new (CB : ClsBase cx N) (hΦ : FunsOk cx Φ d) (room : Room A d) (hfr : A.frames = some l) {c : Nat} {C : Addr} {ms : List Val} {vs : List Value} (hc : cx.cls[c]? = some (.ref C)) (R : Rel cx H ρ s) (vrs : VRs cx ρ s.heap ms vs) (fr : FramesOk cx l ρ s.heap) :
    SimK cx (newV cx.T Φ c ms H) (fun Q E s => wpAny (model cx.prog cx.w) A (call (.ref C) vs) Q E s) (Amb.vr cx) ρ s := by
  cases hk : cx.T.meth c 0 with
  | none => unfold newV; rw [hk]; trivial
  | some k =>
    have hks : (cx.T.meth c 0).isSome = true := by rw [hk]; rfl
    refine hideG fun G kG => ?_
    obtain ⟨nm, q, Nn, bs, sn, sub, col, dd, q0, q1, q2, q3, q5, mN, hC, hN, h1, h2, h3, h4, h5⟩ := (CB.cls c C hc hks).is
    obtain ⟨fa, fo, fd, hfa, hmN, hfo, hfc, hfd, hna, _⟩ := h5 _ 0 k CB.init hk
    refine kG ?_
    rw [newV_some hk]
    have main : ∀ (Q : Value → Shared → Prop) (E : Value → Shared → Prop), (∀ h' x dx, Heap.MadeObj s.heap h' x dx C → wpAny (model cx.prog cx.w) (A.under (.builtin "type.__call__" ⟨.ref C :: vs, []⟩)) (call (.ref fa) (.ref x :: vs)) (fun r s' => r = .none ∧ Q (.ref x) s') E { s with heap := h' }) → wpAny (model cx.prog cx.w) A (call (.ref C) vs) Q E s := by
      intro Q E hq
      exact wpAny_call_obj_init F.objNew (R.base _ _ hC) (hN.keeps R.base) hmN (R.base _ _ hfo) hfc hq
    have inner : ∀ h' x dx, Heap.MadeObj s.heap h' x dx C → Full ρ s.heap (ρ ++ [(x, dx)]) h' ∧ SimAt cx (A.under (.builtin "type.__call__" ⟨.ref C :: vs, []⟩)) (Φ k (.loc H.length :: ms) (H ++ [.inst c []])) (call (.ref fa) (.ref x :: vs)) (Amb.vr cx) (ρ ++ [(x, dx)]) { s with heap := h' } := by
      intro h' x dx mo
      refine hideG fun G kG => ?_
      obtain ⟨o, ho, oc, od, odd⟩ := mo.inst
      have hdx := mo.dict o ho
      have nn : dx ≠ x ∧ h'.Ns1 dx (fun _ => none) := by
        rcases odd with ⟨w, _⟩ | ⟨b, w, w1, w2⟩
        · rw [hdx] at w; cases w
        · rw [hdx] at w; cases w; exact ⟨w1, w2⟩
      obtain ⟨F, R'⟩ := R.alloc (tk := s.toks) (o := .inst c []) (p := (x, dx)) mo.keeps ⟨mo.newX, mo.newD⟩ (.inst hks hc ho oc od hdx nn.1 nn.2 (fun n v hv => by cases hv) (fun y hy => absurd rfl hy))
      refine kG ?_
      have vx : VR cx (ρ ++ [(x, dx)]) h' (.loc H.length) (.ref x) := VR.loc (p := (x, dx)) (by rw [R.len, List.getElem?_append_right (Nat.le_refl _)]; simp)
      exact ⟨F, hΦ k fa (.loc H.length :: ms) (.ref x :: vs) _ l hfa room.made hfr _ _ _ R' ⟨.cons vx (vrs.step F.step), fr.full F⟩⟩
    cases hr : Φ k (.loc H.length :: ms) (H ++ [.inst c []]) with
    | bad => trivial
    | exc e H' =>
      refine main _ _ fun h' x dx mo => ?_
      obtain ⟨F, sm⟩ := inner h' x dx mo
      rw [hr] at sm
      exact wpAny_mono sm (fun _ _ q => q.elim) fun ex s' ⟨ρ', F', R', fl⟩ => ⟨ρ', F.trans F', R', fl.older F.live⟩
    | ok r H' =>
      cases r with
      | none =>
        refine main _ _ fun h' x dx mo => ?_
        obtain ⟨F, sm⟩ := inner h' x dx mo
        rw [hr] at sm
        refine wpAny_mono sm (fun r' s' ⟨ρ', F', R', vr⟩ => ⟨VR.none_inv vr, ρ', F.trans F', R', ?_⟩) fun _ _ q => q.elim
        exact VR.loc (p := (x, dx)) (F'.grow.get (by rw [R.len, List.getElem?_append_right (Nat.le_refl _)]; simp))
      | _ => trivial
theorem eok_new (B : Base cx N) (hΦ : FunsOk cx Φ d) (room : Room A d) (hfr : A.frames = some l) {c : Nat} {es : MEs} {x : Str} {np pos : Pos} {xs : List Expr} (hg : isGlob sc x = true) (hk : hasNo N.clss x c = true) (hes : ckEs N sc ns es xs = true)
    (y' : Sim cx A ((Amb.env cx env sc ns Γ).and (Amb.frames cx l)) (spliced (xs.map fun e => (false, eval e env))) (evalEs cx.T Φ es Γ) (Amb.vrs cx)) :
    EOk cx A ((Amb.env cx env sc ns Γ).and (Amb.frames cx l)) Φ env Γ (.new c es) (.Call (.Name x np) xs [] pos) := by
  refine EOk.of ?_ rfl
  intro H ρ s R p
  first | rw [ev_call] | rw [ev_new] | rw [ev_umeth] | rw [ev_bf] | rw [ev_isinst] | rw [ev_bm]
  cases hm : cx.T.meth c 0 with
  | none => trivial
  | some k =>
    have hks : (cx.T.meth c 0).isSome = true := by rw [hm]; rfl
    refine hideG fun G kG => ?_
    obtain ⟨mg, mb, ng, nb, _, _, q, _⟩ := B.ns
    obtain ⟨Cv, hC, hx⟩ := q x c (hasNo_eq hk)
    obtain ⟨C, rfl⟩ := B.cls.ref c Cv hC hks
    obtain ⟨nm, qn, Nn, bs, sn, sub, col, dd, q0, q1, q2, q3, q5, mN, hCo, _⟩ := (B.cls.cls c C hC hks).is
    refine kG ?_
    refine SimK.mono (simK_args (f := .ref C) (K := fun vs Q E s => s.heap.get? C = some (excClassObj nm qn C Nn bs [.type "object"] true sn sub false col dd q0 q1 q2 q3 q5 "object.__new__") ∧ wpAny (model cx.prog cx.w) A (call (.ref C) vs) Q E s) (fun e => ckEs_nil (e ▸ hes)) R (y' H ρ s R p) ?_ ?_) ?_
    · intro ms vs H1 ρ1 s1 _ F1 R1 vrs
      exact SimK.andK (R1.base _ _ hCo) (simK_new B.cls hΦ room hfr hC R1 vrs (p.2.full F1))
    · exact fun vs Q E Q' E' s h k1 k2 => ⟨h.1, wpAny_mono h.2 k1 k2⟩
    · intro Q E h
      refine wpAny_Call_ofName (wp_glob R p.1.st hg ng nb hx ?_)
      rw [plainArgs_trees pos (ckEs_plain hes)]
      exact callWith_own (any_false _) (wpAny_mono h (fun b s₁ h₁ => by obtain ⟨h1, h2, h3⟩ := h₁; exact ⟨h1, h2, h3⟩) fun _ _ q => q)
end
end Mine
-- part MSlice
set_option maxRecDepth 100000
namespace Mine
open PySem
section
variable {cx : Cx} {N : Names} {A : Around} {P : Amb} {Φ : Funs} {l : List Env} {d : Nat} {env : Env} {sc : Scope} {ns : List (Option Str)} {Γ : Env'} {H : Hp} {ρ : Rho} {s : Shared}
theorem VRs.cut {h : Heap} {ms : List Val} {vs : List Value} (r : VRs cx ρ h ms vs) (p : Bool × Nat) : VRs cx ρ h (cut p ms) (cut p vs) := by
  obtain ⟨b, k⟩ := p
  cases b with
  | true => exact r.drop k
  | false => exact VRs.take r k
theorem cut_le {α : Type} (p : Bool × Nat) (xs : List α) : (cut p xs).length ≤ xs.length := by
  obtain ⟨b, k⟩ := p
  cases b with
  | true => show (xs.drop k).length ≤ _; rw [List.length_drop]; omega
  | false => show (xs.take k).length ≤ _; rw [List.length_take]; omega
set_option tactic.hygienic true in
theorem cut_parts {h : Heap} {lo hi : Val} {vl vu : Value} {p : Bool × Nat} {n : Nat} (e : cutOf lo hi n = some p) (x : VR cx ρ h lo vl) (y : VR cx ρ h hi vu) : ∃ a b, IsPart vl a ∧ IsPart vu b ∧ ∀ vs : List Value, vs.length = n → slicePick vs.toArray a b none = (cut p vs).toArray := by
  cases lo with
  | int k =>
    cases hi with
    | none =>
      have e : some (true, if 0 ≤ k then k.toNat else n - k.natAbs) = some p := e
      cases e
      obtain ⟨t, hr0⟩ := x.int_inv; refine Eq.symm hr0 ▸ ?_
      obtain rfl := y.none_inv
      refine ⟨_, _, .int k t, .none, fun vs hn => ?_⟩
      by_cases h0 : 0 ≤ k
      · rw [if_pos h0]
        have := slicePick_from' vs.toArray k.toNat
        rwa [Int.toNat_of_nonneg h0] at this
      · rw [if_neg h0, ← hn]
        have := slicePick_last vs.toArray k.natAbs (by omega)
        rwa [show -(k.natAbs : Int) = k by omega] at this
    | _ => exact no_some e
  | none =>
    cases hi with
    | int k =>
      have e : (if 0 ≤ k then some (false, k.toNat) else none) = some p := e
      split at e
      · rename_i h0
        cases e
        obtain ⟨t, hr2⟩ := y.int_inv; refine Eq.symm hr2 ▸ ?_
        obtain rfl := x.none_inv
        refine ⟨_, _, .none, .int k t, fun vs _ => ?_⟩
        have := slicePick_upto' vs.toArray k.toNat
        rwa [Int.toNat_of_nonneg h0] at this
      · exact no_some e
    | _ => exact no_some e
  | _ => exact no_some e
noncomputable def SlicePost (o vl vu : Value) (Q : Value → Shared → Prop) (s₃ : Shared) : Prop :=
  ∃ l items lo hi, o = .ref l ∧ s₃.heap.IsList l items ∧ items.size ≤ sizeLine ∧ IsPart vl lo ∧ IsPart vu hi ∧
    Q (.ref (s₃.heap.objs.size + 1)) { s₃ with heap := (s₃.heap.push { cls := .type "slice", data := .fields #[vl, vu, .none] }).push { cls := .type "list", data := .seq (slicePick items lo hi none) } }
theorem SlicePost.mono {o vl vu : Value} {Q Q' : Value → Shared → Prop} {s₃ : Shared} (h : SlicePost o vl vu Q s₃) (k : ∀ a s, Q a s → Q' a s) : SlicePost o vl vu Q' s₃ := by
  refine hideG fun G kG => ?_
  obtain ⟨l, items, lo, hi, h1, h2, h3, h4, h5, h6⟩ := h
  refine kG ?_
  exact ⟨l, items, lo, hi, h1, h2, h3, h4, h5, k _ _ h6⟩
theorem items_list (R : Rel cx H ρ s) {a : Val} {v : Value} {xs : List Val} (x : VR cx ρ s.heap a v) (h : itemsOf a H = some xs) (ht : isTup a = false) : ∃ p vs n, v = .ref p ∧ s.heap.get? p = some (listO vs n) ∧ VRs cx ρ s.heap xs vs ∧ xs.length ≤ sizeLine := by
  cases a with
  | loc i =>
    obtain ⟨p, hp, hr0⟩ := x.loc_inv; refine Eq.symm hr0 ▸ ?_
    refine hideG fun G kG => ?_
    obtain ⟨vs, n, _, g, r, z⟩ := R.listAt (items_loc h) hp
    refine kG ?_
    exact ⟨p.1, vs, n, rfl, g, r, z⟩
  | script ms =>
    cases h
    cases x with
    | script e z r => exact ⟨_, _, _, rfl, R.base _ _ e, r, by rw [List.length_map]; exact z⟩
  | tup ms => cases ht
  | _ => exact no_some h
theorem get_txt {x : Str} {t : Tok} {a : Addr} {l u : Option (Int × Tok)} {Q E : Value → Shared → Prop} (hs : s.heap.IsSlice a l u none) (hsz : x.length ≤ sizeLine) (h : ∀ t' k, Q (.str (Txt.slice x (l.map (·.1)) (u.map (·.1))) t') { s with toks := k }) : wpAny (model cx.prog cx.w) A (getItem (.str x t) (.ref a)) Q E s :=
  wpAny_getItem_str_slice hs rfl (post_val_or_str ⟨Nat.le_trans (Txt.slice_le x _ _) hsz, h⟩)
noncomputable def TxtPost (o vl vu : Value) (Q : Value → Shared → Prop) (s₃ : Shared) : Prop :=
  ∃ x t l u, o = .str x t ∧ vl = partValue l ∧ vu = partValue u ∧ x.length ≤ sizeLine ∧ ∀ t' k, Q (.str (Txt.slice x (l.map (·.1)) (u.map (·.1))) t') { s₃ with heap := s₃.heap.push { cls := .type "slice", data := .fields #[vl, vu, .none] }, toks := k }
theorem TxtPost.mono {o vl vu : Value} {Q Q' : Value → Shared → Prop} {s₃ : Shared} (h : TxtPost o vl vu Q s₃) (k : ∀ a s, Q a s → Q' a s) : TxtPost o vl vu Q' s₃ := by
  refine hideG fun G kG => ?_
  obtain ⟨x, t, l, u, h1, h2, h3, h4, h5⟩ := h
  refine kG ?_
  exact ⟨x, t, l, u, h1, h2, h3, h4, fun t' j => k _ _ (h5 t' j)⟩
noncomputable def AnyPost (o vl vu : Value) (Q : Value → Shared → Prop) (s₃ : Shared) : Prop := SlicePost o vl vu Q s₃ ∨ TxtPost o vl vu Q s₃
theorem AnyPost.mono {o vl vu : Value} {Q Q' : Value → Shared → Prop} {s₃ : Shared} (h : AnyPost o vl vu Q s₃) (k : ∀ a s, Q a s → Q' a s) : AnyPost o vl vu Q' s₃ := h.imp (·.mono k) (·.mono k)
theorem bound_part {h : Heap} {a : Val} {v : Value} {b : Option Int} (e : boundOf a = some b) (x : VR cx ρ h a v) : ∃ l : Option (Int × Tok), v = partValue l ∧ l.map (·.1) = b := by
  cases a with
  | none => cases e; cases x; exact ⟨none, rfl, rfl⟩
  | int i => cases e; obtain ⟨t, rfl⟩ := x.int_inv; exact ⟨some (i, t), rfl, rfl⟩
  | _ => exact no_some e
theorem wp_slice_any {value : Expr} {lower upper : Option Expr} {p pos : Pos} {Q E : Value → Shared → Prop}
    (h : wpAny (model cx.prog cx.w) A (eval value env) (fun o s₁ => wpAny (model cx.prog cx.w) A (evalPart lower env) (fun vl s₂ => wpAny (model cx.prog cx.w) A (evalPart upper env) (fun vu s₃ => AnyPost o vl vu Q s₃) E s₂) E s₁) E s) :
    wpAny (model cx.prog cx.w) A (eval (.Subscript value (.Slice lower upper none p) pos) env) Q E s := by
  refine wpAny_bind (wpAny_mono h (fun o s₁ h₁ => wpAny_bind (wpAny_holding (wpAny_Slice (wpAny_mono h₁ (fun vl s₂ h₂ => wpAny_mono h₂ (fun vu s₃ h₃ => ?_) fun _ _ x => x) fun _ _ x => x)))) fun _ _ x => x)
  rcases h₃ with h₃ | h₃
  · refine hideG fun G kG => ?_
    obtain ⟨l, items, lo, hi, rfl, hl, hsz, pl, pu, hQ⟩ := h₃
    refine kG ?_
    refine wpAny_pure (wpAny_bind (wpAny_standAt ?_))
    have ty := (hl.push { cls := .type "slice", data := .fields #[vl, vu, .none] }).typeIs (s := { s₃ with heap := s₃.heap.push { cls := .type "slice", data := .fields #[vl, vu, .none] } })
    have get : wpAny (model cx.prog cx.w) A (getItem (.ref l) (.ref s₃.heap.objs.size)) Q E { s₃ with heap := s₃.heap.push { cls := .type "slice", data := .fields #[vl, vu, .none] } } := by
      refine wpAny_getItem_list_slice (hl.push _) (Heap.IsSliceOf.new ..) pl pu .none (by simp) ?_ hsz
      rw [Heap.size_push]; exact hQ
    have fin : ∀ i, wpAny (model cx.prog cx.w) A (getItem (.ref l) i) Q E _ → wpAny (model cx.prog cx.w) A (operate [i, .ref l] (getItem (.ref l) i)) (fun r s₃ => wpAny (model cx.prog cx.w) A (letTemporaryGo value (.ref l) r >>= fun _ => pure r) Q E s₃) E { s₃ with heap := s₃.heap.push { cls := .type "slice", data := .fields #[vl, vu, .none] } } :=
      fun i g => wpAny_operating (wpAny_mono g (fun r s₃ h₃ => wpAny_bind (wpAny_letTemporaryGo (wpAny_pure h₃))) fun _ _ x => x)
    refine wpAny_bind ?_
    exact wpAny_bind (wpAny_specialOf ty list_getitem_lookup (wpAny_pure (wpAny_bind (fin _ get))))
  · refine hideG fun G kG => ?_
    obtain ⟨x, t, l, u, rfl, rfl, rfl, hsz, q⟩ := h₃
    refine kG ?_
    refine wpAny_pure (wpAny_bind (wpAny_standAt ?_))
    have get : wpAny (model cx.prog cx.w) A (getItem (.str x t) (.ref s₃.heap.objs.size)) Q E { s₃ with heap := s₃.heap.push { cls := .type "slice", data := .fields #[partValue l, partValue u, .none] } } := get_txt ⟨_, Heap.get?_push_size _ rfl, rfl, rfl⟩ hsz q
    have fin : ∀ i, wpAny (model cx.prog cx.w) A (getItem (.str x t) i) Q E _ → wpAny (model cx.prog cx.w) A (operate [i, .str x t] (getItem (.str x t) i)) (fun r s₃ => wpAny (model cx.prog cx.w) A (letTemporaryGo value (.str x t) r >>= fun _ => pure r) Q E s₃) E { s₃ with heap := s₃.heap.push { cls := .type "slice", data := .fields #[partValue l, partValue u, .none] } } :=
      fun i g => wpAny_operating (wpAny_mono g (fun r s₃ h₃ => wpAny_bind (wpAny_letTemporaryGo (wpAny_pure h₃))) fun _ _ x => x)
    refine wpAny_bind ?_
    exact wpAny_bind (wpAny_specialOf (typeIs_str _ _ _) F.slot_str_getitem.lookup (wpAny_pure (wpAny_bind (fin _ get))))
set_option tactic.hygienic true in
theorem eok_slice {a : ME} {lo hi : MEo} {x : Expr} {p pos : Pos} {lw up : Option Expr} (ha : EOk cx A P Φ env Γ a x) (hl : Sim cx A P (evalPart lw env) (evalO cx.T Φ lo Γ) (Amb.vr cx)) (hu : Sim cx A P (evalPart up env) (evalO cx.T Φ hi Γ) (Amb.vr cx)) :
    EOk cx A P Φ env Γ (.slice a lo hi) (.Subscript x (.Slice lw up none p) pos) := by
  refine EOk.of ?_ rfl
  intro H ρ s R p0
  refine SimAt.bindK (K' := fun Q E s => wpAny (model cx.prog cx.w) A (eval (.Subscript x (.Slice lw up none p) pos) env) Q E s)
    (K := fun o Q E s => wpAny (model cx.prog cx.w) A (evalPart lw env) (fun vl s₂ => wpAny (model cx.prog cx.w) A (evalPart up env) (fun vu s₃ => AnyPost o vl vu Q s₃) E s₂) E s) (ha.val H ρ s R p0) ?_ ?_ (fun Q E h => wp_slice_any h)
  · intro b ov H1 ρ1 s1 _ F1 R1 vr
    refine SimAt.bindK (K' := fun Q E s => wpAny (model cx.prog cx.w) A (evalPart lw env) (fun vl s₂ => wpAny (model cx.prog cx.w) A (evalPart up env) (fun vu s₃ => AnyPost ov vl vu Q s₃) E s₂) E s)
      (K := fun vl Q E s => wpAny (model cx.prog cx.w) A (evalPart up env) (fun vu s₃ => AnyPost ov vl vu Q s₃) E s) (hl H1 ρ1 s1 R1 (P.st _ _ _ _ p0 F1)) ?_ ?_ (fun Q E h => h)
    · intro b2 vl H2 ρ2 s2 _ F2 R2 vr2
      refine SimAt.bindK (K' := fun Q E s => wpAny (model cx.prog cx.w) A (evalPart up env) (fun vu s₃ => AnyPost ov vl vu Q s₃) E s)
        (K := fun vu Q E s₃ => AnyPost ov vl vu Q s₃) (hu H2 ρ2 s2 R2 (P.st _ _ _ _ (P.st _ _ _ _ p0 F1) F2)) ?_ ?_ (fun Q E h => h)
      · intro b3 vu H3 ρ3 s3 _ F3 R3 vr3
        have v1 : VR cx ρ3 s3.heap b ov := VR.step F3.step (VR.step F2.step vr)
        have v2 : VR cx ρ3 s3.heap b2 vl := VR.step F3.step vr2
        have v3 : VR cx ρ3 s3.heap b3 vu := vr3
        show SimK cx (sliceV b b2 b3 H3) _ _ ρ3 s3
        unfold sliceV
        split
        · rename_i xs hx
          split
          · rename_i q hq
            by_cases ht : isTup b = true
            · rw [if_pos ht]; trivial
            · rw [if_neg ht]
              refine hideG fun G kG => ?_
              obtain ⟨a, vs, n, rfl, g, r, z⟩ := items_list R3 v1 hx (by simpa using ht)
              obtain ⟨pa, pb, q1, q2, q3⟩ := cut_parts hq v2 v3
              refine kG ?_
              refine .inl ⟨a, vs.toArray, pa, pb, rfl, ⟨_, g, rfl, n, rfl⟩, by simp only [List.size_toArray]; rw [← r.length]; exact z, q1, q2, ?_⟩
              rw [q3 vs r.length.symm]
              have F4 : Full ρ3 s3.heap ρ3 (s3.heap.push { cls := .type "slice", data := .fields #[vl, vu, .none] }) := Full.push _ _ _
              have R4 := R3.push { cls := .type "slice", data := .fields #[vl, vu, .none] } s3.toks
              have := R4.newList (s := { s3 with heap := s3.heap.push { cls := .type "slice", data := .fields #[vl, vu, .none] } }) s3.toks ((VRs.cut r q).step F4.step) (Nat.le_trans (cut_le _ _) z)
              rw [Heap.size_push] at this
              refine hideG fun G kG => ?_
              obtain ⟨ρ', F', R', vr'⟩ := this
              refine kG ?_
              exact ⟨ρ', F4.trans F', R', vr'⟩
          · trivial
        · cases e : sliceT b b2 b3 with
          | none => trivial
          | some r =>
            refine hideG fun G kG => ?_
            obtain ⟨x, e1, e0⟩ := Option.bind_eq_some_iff.mp e
            obtain ⟨l, e2, e4⟩ := Option.bind_eq_some_iff.mp e0
            obtain ⟨u, e3, e5⟩ := Option.map_eq_some_iff.mp e4
            obtain ⟨pl, q1, q2⟩ := bound_part e2 v2
            obtain ⟨pu, q3, q4⟩ := bound_part e3 v3
            refine kG ?_
            cases txt_el e1
            cases v1 with
            | str _ t z =>
              refine .inr ⟨x, t, pl, pu, rfl, q1, q3, z, fun t' k => ?_⟩
              have F4 : Full ρ3 s3.heap ρ3 (s3.heap.push { cls := .type "slice", data := .fields #[vl, vu, .none] }) := Full.push _ _ _
              exact ⟨ρ3, F4, R3.push { cls := .type "slice", data := .fields #[vl, vu, .none] } k, by rw [q2, q4, ← e5]; exact .str _ _ (Nat.le_trans (Txt.slice_le x _ _) z)⟩
      · exact fun vu Q E Q' E' s h k1 _ => h.mono k1
    · exact fun vl Q E Q' E' s h k1 k2 => wpAny_mono h (fun vu s₃ h' => h'.mono k1) k2
  · exact fun ov Q E Q' E' s h k1 k2 => wpAny_mono h (fun vl s₂ h' => wpAny_mono h' (fun vu s₃ h'' => h''.mono k1) k2) k2
end
end Mine
-- part MEval
namespace Mine
open PySem
section
variable {cx : Cx} {N : Names} {A : Around} {Φ : Funs} {l : List Env} {d : Nat}
structure Ground (cx : Cx) (N : Names) (A : Around) (Φ : Funs) (l : List Env) (d : Nat) : Prop where
  base : Base cx N
  room : Room A d
  frames : A.frames = some l
  funs : FunsOk cx Φ d
  defs : ∀ (f : Nat) (a : Addr), cx.fns[f]? = some a → ∃ g, cx.T.funs[f]? = some g
theorem Ground.u (G : Ground cx N A Φ l d) : A.units + 100 < cLine := by have := G.room.units; omega
noncomputable def Apart (ns : List (Option Str)) : Prop := ∀ (i j : Nat) (y : Str), ns[i]? = some (some y) → ns[j]? = some (some y) → i = j
theorem bm_len {m : BM} {ms : List Val} {xs : List Expr} (h1 : (bmName m).2 = xs.length) (h2 : ms.length = xs.length) : ms.length = (bmName m).2 := by rw [h1, h2]
theorem bm_one (hu : A.units + 100 < cLine) (m : BM) (b : Val) (v : Value) (ms : List Val) (vs : List Value) (hl : ms.length = (bmName m).2) : Sim cx A ((Amb.vr cx b v).and (Amb.vrs cx ms vs)) (call (.builtin (bmAt m).2) (v :: vs)) (bmV m b ms) (Amb.vr cx) := by
  cases m with
  | append => exact bm_append b v ms vs hl
  | rstrip => exact bm_rstrip b v ms vs hl
  | join => exact bm_join b v ms vs hl
  | split => exact bm_split b v ms vs hl
set_option maxHeartbeats 4000000 in
mutual
theorem eok (G : Ground cx N A Φ l d) : ∀ (m : ME) (e : Expr) (env : Env) (sc : Scope) (ns : List (Option Str)) (Γ : Env'), ck N sc ns m e = true → Apart ns → Γ.length = ns.length → EOk cx A ((Amb.env cx env sc ns Γ).and (Amb.frames cx l)) Φ env Γ m e
  | .none, e, env, sc, ns, Γ, h, _, _ => by
    obtain ⟨k, pos, hr0⟩ := inv_none h; refine Eq.symm hr0 ▸ ?_
    refine EOk.of (fun H ρ s R p => ?_) rfl
    exact simAt_pure R fun Q E k => wpAny_Constant_none (k _ s.toks .none)
  | .bool b, e, env, sc, ns, Γ, h, _, _ => by
    obtain ⟨k, pos, rfl⟩ := inv_bool h
    refine EOk.of (fun H ρ s R p => ?_) rfl
    exact simAt_pure R fun Q E k => wpAny_Constant_bool (k _ s.toks (.bool b))
  | .int i, e, env, sc, ns, Γ, h, _, _ => by
    obtain ⟨k, pos, rfl⟩ := inv_int h
    refine EOk.of (fun H ρ s R p => ?_) rfl
    exact simAt_pure R fun Q E k => wpAny_Constant_int (k _ _ (.int _ _))
  | .str v, e, env, sc, ns, Γ, h, _, _ => by
    obtain ⟨k, pos, hr3, z⟩ := inv_str h; refine Eq.symm hr3 ▸ ?_
    refine EOk.of (fun H ρ s R p => ?_) rfl
    exact simAt_pure R fun Q E k => wpAny_Constant_str (k _ _ (.str _ _ (by rw [sizeLine_eq]; omega)))
  | .glob k, e, env, sc, ns, Γ, h, _, _ => by
    obtain ⟨x, pos, rfl, h1, h2⟩ := inv_glob h
    exact EOk.of (sim_glob G.base h1 h2 Φ).and1 rfl
  | .var i, e, env, sc, ns, Γ, h, _, _ => by
    obtain ⟨x, pos, rfl, h1⟩ := inv_var h
    exact EOk.of (sim_var h1 Φ).and1 rfl
  | .bin op a b, e, env, sc, ns, Γ, h, ha, hΓ => by
    obtain ⟨x, o, y, pos, hr6, h1, h2, h3⟩ := inv_bin h; refine Eq.symm hr6 ▸ ?_
    exact eok_bin h1 (eok G a x env sc ns Γ h2 ha hΓ) (eok G b y env sc ns Γ h3 ha hΓ)
  | .neg a, e, env, sc, ns, Γ, h, ha, hΓ => by
    obtain ⟨x, pos, rfl, h1⟩ := inv_neg h
    exact eok_neg (eok G a x env sc ns Γ h1 ha hΓ)
  | .not a, e, env, sc, ns, Γ, h, ha, hΓ => by
    obtain ⟨x, pos, rfl, h1⟩ := inv_not h
    exact eok_not (eok G a x env sc ns Γ h1 ha hΓ)
  | .and a b, e, env, sc, ns, Γ, h, ha, hΓ => by
    obtain ⟨x, y, rest, pos, rfl, h1, h2⟩ := inv_and h
    refine eok_and (eok G a x env sc ns Γ h1 ha hΓ) ?_
    rcases h2 with ⟨rfl, h2⟩ | h2
    · exact EOks.one (eok G b y env sc ns Γ h2 ha hΓ)
    · exact EOks.more (eok G b _ env sc ns Γ h2 ha hΓ)
  | .or a b, e, env, sc, ns, Γ, h, ha, hΓ => by
    obtain ⟨x, y, rest, pos, rfl, h1, h2⟩ := inv_or h
    refine eok_or (eok G a x env sc ns Γ h1 ha hΓ) ?_
    rcases h2 with ⟨rfl, h2⟩ | h2
    · exact EOks.one (eok G b y env sc ns Γ h2 ha hΓ)
    · exact EOks.more (eok G b _ env sc ns Γ h2 ha hΓ)
  | .cmp op a b, e, env, sc, ns, Γ, h, ha, hΓ => by
    obtain ⟨x, y, pos, hr11, h1, h2, h3⟩ := inv_cmp h; refine Eq.symm hr11 ▸ ?_
    exact eok_cmp G.u h3 (eok G a x env sc ns Γ h1 ha hΓ) (eok G b y env sc ns Γ h2 ha hΓ)
  | .cmp2 op1 op2 a b c, e, env, sc, ns, Γ, h, ha, hΓ => by
    obtain ⟨x, y, z, pos, hr12, h1, h2, h3, h4⟩ := inv_cmp2 h; refine Eq.symm hr12 ▸ ?_
    exact eok_cmp2 G.u h4 (eok G a x env sc ns Γ h1 ha hΓ) (eok G b y env sc ns Γ h2 ha hΓ) (eok G c z env sc ns Γ h3 ha hΓ)
  | .sub a i, e, env, sc, ns, Γ, h, ha, hΓ => by
    obtain ⟨x, y, pos, hr13, h1, h2⟩ := inv_sub h; refine Eq.symm hr13 ▸ ?_
    exact eok_sub G.u (eok G a x env sc ns Γ h1 ha hΓ) (eok G i y env sc ns Γ h2 ha hΓ)
  | .slice a lo hi, e, env, sc, ns, Γ, h, ha, hΓ => by
    obtain ⟨v, lw, up, p, pos, rfl, h1, h2, h3⟩ := inv_slice h
    exact eok_slice (eok G a v env sc ns Γ h1 ha hΓ) (eopt G lo lw env sc ns Γ h2 ha hΓ) (eopt G hi up env sc ns Γ h3 ha hΓ)
  | .tup es, e, env, sc, ns, Γ, h, ha, hΓ => by
    obtain ⟨xs, k, pos, hr15, h1, h2⟩ := inv_tup h; refine Eq.symm hr15 ▸ ?_
    exact EOk.of (sim_tup (ckEs_plain h1) h2 (fun _ _ _ e => evalEs_length h1 e) (eoks G es xs env sc ns Γ h1 ha hΓ)) rfl
  | .list es, e, env, sc, ns, Γ, h, ha, hΓ => by
    obtain ⟨xs, pos, rfl, h1, h2⟩ := inv_list h
    exact EOk.of (sim_list (ckEs_plain h1) h2 (fun _ _ _ e => evalEs_length h1 e) (eoks G es xs env sc ns Γ h1 ha hΓ)) rfl
  | .dict, e, env, sc, ns, Γ, h, ha, hΓ => by
    obtain ⟨pos, hr17⟩ := inv_dict h; refine Eq.symm hr17 ▸ ?_
    exact EOk.of sim_dict rfl
  | .attr a n, e, env, sc, ns, Γ, h, ha, hΓ => by
    obtain ⟨x, y, pos, rfl, h1, h2, h3⟩ := inv_attr h
    exact eok_attr G.base.cls h2 h3 (eok G a x env sc ns Γ h1 ha hΓ)
  | .call f es, e, env, sc, ns, Γ, h, ha, hΓ => by
    obtain ⟨x, np, xs, pos, rfl, h1, h2, h3, h4⟩ := inv_call h
    refine EOk.of ?_ rfl
    obtain ⟨mg, mb, ng, nb, q, _⟩ := G.base.ns
    obtain ⟨a, ha', _⟩ := q x f (hasNo_eq h2)
    exact sim_callU G.base (fun a args vals h => G.funs f a args vals A l h G.room.toF G.frames) h1 h2 (G.defs f a ha') h3 (eoks G es xs env sc ns Γ h3 ha hΓ)
  | .new c es, e, env, sc, ns, Γ, h, ha, hΓ => by
    obtain ⟨x, np, xs, pos, rfl, h1, h2, h3, h4⟩ := inv_new h
    exact eok_new G.base G.funs G.room G.frames h1 h2 h3 (eoks G es xs env sc ns Γ h3 ha hΓ)
  | .umeth a m es, e, env, sc, ns, Γ, h, ha, hΓ => by
    obtain ⟨o, y, apos, xs, pos, hr21, h1, h2, h3, h4, h5, h6⟩ := inv_umeth h; refine Eq.symm hr21 ▸ ?_
    exact eok_umeth G.base.cls G.funs G.room G.frames h2 h3 h4 h5 h6 (eok G a o env sc ns Γ h1 ha hΓ) (eoks G es xs env sc ns Γ h3 ha hΓ)
  | .bf f es, e, env, sc, ns, Γ, h, ha, hΓ => by
    obtain ⟨x, np, xs, pos, rfl, h1, h2, h3, h4⟩ := inv_bf h
    exact eok_bf G.base G.room.hh G.u h1 h2 h3 h4 (eoks G es xs env sc ns Γ h4 ha hΓ)
  | .bm a m es, e, env, sc, ns, Γ, h, ha, hΓ => by
    obtain ⟨o, y, apos, xs, pos, rfl, h1, rfl, h3, h4, h5, h6⟩ := inv_bm h
    refine EOk.of ?_ rfl
    exact sim_bm h5 (ckEs_plain h4) (by rw [← h3]; cases m <;> decide) (fun e => ckEs_nil (e ▸ h4)) h6 (eok G a o env sc ns Γ h1 ha hΓ).val (eoks G es xs env sc ns Γ h4 ha hΓ)
      (fun b v ms vs hl => bm_one G.u m b v ms vs (bm_len h3 hl)) (fun _ _ _ e => evalEs_length h4 e)
  | .isinst a t, e, env, sc, ns, Γ, h, ha, hΓ => by
    obtain ⟨f, np, x, y, yp, pos, hr23, h1, h2, h3, h4, h5⟩ := inv_isinst h; refine Eq.symm hr23 ▸ ?_
    have z := eok G a x env sc ns Γ h4 ha hΓ
    cases t with
    | cls c => exact eok_isiC G.base h1 h2 h3 h5 (ck_notStar h4) z
    | int => exact eok_isi G.base (fun c => by intro q; cases q) h1 h2 h3 (of_decide_eq_true h5) (ck_notStar h4) z
    | bool => exact eok_isi G.base (fun c => by intro q; cases q) h1 h2 h3 (of_decide_eq_true h5) (ck_notStar h4) z
    | str => exact eok_isi G.base (fun c => by intro q; cases q) h1 h2 h3 (of_decide_eq_true h5) (ck_notStar h4) z
    | tuple => exact eok_isi G.base (fun c => by intro q; cases q) h1 h2 h3 (of_decide_eq_true h5) (ck_notStar h4) z
    | list => exact eok_isi G.base (fun c => by intro q; cases q) h1 h2 h3 (of_decide_eq_true h5) (ck_notStar h4) z
  | .comp elt it cond, e, env, sc, ns, Γ, h, ha, hΓ => by
    obtain ⟨el, x, px, i, ifs, csc, pos, hr24, h1, h2, h3, h4, h5⟩ := inv_comp h; refine Eq.symm hr24 ▸ ?_
    exact eok_comp G.room.hh h2 h3 ha hΓ ⟨fun cenv Γ' hΓ' => econd G cond ifs cenv csc _ Γ' h5 (inner_inj ha (compOk_parts h3).2.1) hΓ', fun cenv Γ' hΓ' => (eok G elt el cenv csc _ Γ' h4 (inner_inj ha (compOk_parts h3).2.1) hΓ').val⟩ (eok G it i env sc ns Γ h1 ha hΓ)
theorem eopt (G : Ground cx N A Φ l d) : ∀ (o : MEo) (x : Option Expr) (env : Env) (sc : Scope) (ns : List (Option Str)) (Γ : Env'), ckO N sc ns o x = true → Apart ns → Γ.length = ns.length → Sim cx A ((Amb.env cx env sc ns Γ).and (Amb.frames cx l)) (evalPart x env) (evalO cx.T Φ o Γ) (Amb.vr cx)
  | .none, none, env, sc, ns, Γ, _, _, _ => by
    intro H ρ s R p
    exact wpAny_pure ⟨ρ, Full.refl _ _, R, .none⟩
  | .some e, some x, env, sc, ns, Γ, h, ha, hΓ => by
    exact (eok G e x env sc ns Γ h ha hΓ).val
  | .none, some _, env, sc, ns, Γ, h, ha, hΓ => by cases (show false = true from h)
  | .some _, none, env, sc, ns, Γ, h, ha, hΓ => by cases (show false = true from h)
theorem econd (G : Ground cx N A Φ l d) : ∀ (cond : MEo) (ifs : List Expr) (cenv : Env) (csc : Scope) (ns' : List (Option Str)) (Γ' : Env'), ckC N csc ns' cond ifs = true → Apart ns' → Γ'.length = ns'.length →
    Sim cx A ((Amb.env cx cenv csc ns' Γ').and (Amb.frames cx l)) (forIn ifs true fun c r => if r = true then do let ok ← isTrue c cenv (eval c cenv); pure (ForInStep.yield ok) else pure (ForInStep.yield r)) (evalC cx.T Φ cond Γ') BV
  | .none, [], cenv, csc, ns', Γ', h2, ha, hΓ => by
    intro H ρ s R p
    exact wpAny_tests_nil ⟨ρ, Full.refl _ _, R, rfl⟩
  | .some c, [i], cenv, csc, ns', Γ', h2, ha, hΓ => by
    exact (eok G c i cenv csc ns' Γ' h2 ha hΓ).tru.pre fun Q E s h => wpAny_tests_one h
  | .none, _ :: _, cenv, csc, ns', Γ', h2, ha, hΓ => by cases (show false = true from h2)
  | .some _, [], cenv, csc, ns', Γ', h2, ha, hΓ => by cases (show false = true from h2)
  | .some _, _ :: _ :: _, cenv, csc, ns', Γ', h2, ha, hΓ => by cases (show false = true from h2)
theorem eoks (G : Ground cx N A Φ l d) : ∀ (ms : MEs) (xs : List Expr) (env : Env) (sc : Scope) (ns : List (Option Str)) (Γ : Env'), ckEs N sc ns ms xs = true → Apart ns → Γ.length = ns.length →
    Sim cx A ((Amb.env cx env sc ns Γ).and (Amb.frames cx l)) (spliced (xs.map fun e => (false, eval e env))) (evalEs cx.T Φ ms Γ) (Amb.vrs cx)
  | .nil, [], env, sc, ns, Γ, h, ha, hΓ => sim_nil
  | .nil, _ :: _, env, sc, ns, Γ, h, ha, hΓ => by cases (show false = true from h)
  | .cons _ _, [], env, sc, ns, Γ, h, ha, hΓ => by cases (show false = true from h)
  | .cons m ms, x :: xs, env, sc, ns, Γ, h, ha, hΓ => by
    have h := And.intro (an1 h) (an2 h)
    exact sim_cons (eok G m x env sc ns Γ h.1 ha hΓ).val (eoks G ms xs env sc ns Γ h.2 ha hΓ)
end
end
end Mine
-- part MExec
namespace Mine
open PySem
section
variable {cx : Cx} {N : Names} {A : Around} {Φ : Funs} {l : List Env} {d : Nat} {env : Env} {sc : Scope} {ns : List (Option Str)} {Γ : Env'} {H : Hp} {ρ ρ' : Rho} {s : Shared}
noncomputable def SimSK (cx : Cx) (env : Env) (sc : Scope) (ns : List (Option Str)) (r : ResS) (T : (Flow → Shared → Prop) → (Value → Shared → Prop) → Shared → Prop) (ρ : Rho) (s : Shared) : Prop :=
  match r with
  | .bad => True
  | .next Γ' H' => T (fun f s' => f = .next ∧ ∃ ρ', FullS env ρ s.heap ρ' s'.heap ∧ Rel cx H' ρ' s' ∧ EnvOk cx env sc ns Γ' ρ' s'.heap) (fun _ _ => False) s
  | .ret v H' => T (fun f s' => ∃ v' ρ', f = .ret v' ∧ FullS env ρ s.heap ρ' s'.heap ∧ Rel cx H' ρ' s' ∧ (VR cx ρ' s'.heap v v' ∧ EnvSt cx env sc ρ' s'.heap)) (fun _ _ => False) s
  | .exc c Γ' H' => T (fun _ _ => False) (fun e s' => ∃ ρ', FullS env ρ s.heap ρ' s'.heap ∧ Rel cx H' ρ' s' ∧ EnvOk cx env sc ns Γ' ρ' s'.heap ∧ Flying cx ρ' s.heap s'.heap c e) s
theorem SimSK.of {r : ResS} {t : Sem Flow} (x : SimSAt cx A env sc ns r t ρ s) : SimSK cx env sc ns r (fun Q E s => wpAny (model cx.prog cx.w) A t Q E s) ρ s := by cases r <;> exact x
theorem SimSK.to {r : ResS} {t : Sem Flow} (x : SimSK cx env sc ns r (fun Q E s => wpAny (model cx.prog cx.w) A t Q E s) ρ s) : SimSAt cx A env sc ns r t ρ s := by cases r <;> exact x
theorem SimSK.mono {r : ResS} {T T' : (Flow → Shared → Prop) → (Value → Shared → Prop) → Shared → Prop} (x : SimSK cx env sc ns r T ρ s) (k : ∀ Q E, T Q E s → T' Q E s) : SimSK cx env sc ns r T' ρ s := by cases r <;> first | trivial | exact k _ _ x
theorem SimSAt.bindK {α β : Type} {t : Sem α} {m : M β} {V : β → α → Amb} {g : β → Hp → ResS} {K : α → (Flow → Shared → Prop) → (Value → Shared → Prop) → Shared → Prop} {K' : (Flow → Shared → Prop) → (Value → Shared → Prop) → Shared → Prop} (e0 : EnvOk cx env sc ns Γ ρ s.heap) (x : SimAt cx A (m H) t V ρ s)
    (y : ∀ b a H' ρ' s', m H = .ok b H' → Full ρ s.heap ρ' s'.heap → Rel cx H' ρ' s' → EnvOk cx env sc ns Γ ρ' s'.heap → (V b a).P ρ' s'.heap → SimSK cx env sc ns (g b H') (K a) ρ' s')
    (mk : ∀ a, MonoK (K a))
    (k : ∀ Q E, wpAny (model cx.prog cx.w) A t (fun a s' => K a Q E s') E s → K' Q E s) :
    SimSK cx env sc ns (bndS m Γ g H) K' ρ s := by
  unfold bndS
  cases e : m H with
  | bad => trivial
  | exc c H' =>
    rw [e] at x
    exact k _ _ (wpAny_mono x (fun _ _ q => q.elim) fun ex s' ⟨ρ', F, R, fl⟩ => ⟨ρ', F.toS, R, e0.full F, fl⟩)
  | ok b H' =>
    rw [e] at x
    show SimSK cx env sc ns (g b H') K' ρ s
    cases e2 : g b H' with
    | bad => trivial
    | next Γ2 H2 =>
      refine k _ _ (wpAny_mono x (fun a s' ⟨ρ', F, R, v⟩ => ?_) fun _ _ q => q.elim)
      have z := y b a H' ρ' s' e F R (e0.full F) v
      rw [e2] at z
      exact mk a _ _ _ _ _ z (fun f s'' ⟨h1, ρ'', F', R', e'⟩ => ⟨h1, ρ'', F.toS.trans F', R', e'⟩) fun _ _ q => q.elim
    | ret v2 H2 =>
      refine k _ _ (wpAny_mono x (fun a s' ⟨ρ', F, R, v⟩ => ?_) fun _ _ q => q.elim)
      have z := y b a H' ρ' s' e F R (e0.full F) v
      rw [e2] at z
      exact mk a _ _ _ _ _ z (fun f s'' ⟨v', ρ'', h1, F', R', e'⟩ => ⟨v', ρ'', h1, F.toS.trans F', R', e'⟩) fun _ _ q => q.elim
    | exc c2 Γ2 H2 =>
      refine k _ _ (wpAny_mono x (fun a s' ⟨ρ', F, R, v⟩ => ?_) fun _ _ q => q.elim)
      have z := y b a H' ρ' s' e F R (e0.full F) v
      rw [e2] at z
      exact mk a _ _ _ _ _ z (fun _ _ q => q) fun ex s'' ⟨ρ'', F', R', e', fl⟩ => ⟨ρ'', F.toS.trans F', R', e', fl.older F.live⟩
theorem SimSK.look {β : Type} {f : Hp → Option β} {g : β → Hp → ResS} {K : (Flow → Shared → Prop) → (Value → Shared → Prop) → Shared → Prop} (y : ∀ b, f H = some b → SimSK cx env sc ns (g b H) K ρ s) : SimSK cx env sc ns (bndS (M.look f) Γ g H) K ρ s := by
  unfold bndS
  cases e : f H with
  | none => rw [look_none e]; trivial
  | some b => rw [look_some e]; exact y b e
theorem FramesOk.stmt {h h' : Heap} (fr : FramesOk cx l ρ h) (F : FullS env ρ h ρ' h') (e0 : EnvSt cx env sc ρ h) (e1 : EnvSt cx env sc ρ' h') : FramesOk cx l ρ' h' := fun en he => by
  refine hideG fun G kG => ?_
  obtain ⟨k, L, o, h1, h2, h3, h5, h6⟩ := fr en he
  refine kG ?_
  by_cases q : L = env.locals
  · refine hideG fun G kG => ?_
    obtain ⟨m, o', es, ep, e', d, _⟩ := e1.loc
    refine kG ?_
    rw [← q] at e'
    exact ⟨k, L, o', h1, h2, e', ⟨_, _, d⟩, by rw [q]; exact e1.locN⟩
  · obtain ⟨es, n, hd⟩ := h5
    obtain ⟨o', e', u⟩ := F.keep L o h3 h6 q (e0.notCell h3 fun v w => by rw [hd] at w; cases w)
    exact ⟨k, L, o', h1, h2, e', ⟨es, n, by rw [u.data]; exact hd⟩, F.grow.not h6 h3⟩
theorem sim_then {st : Stmt} {rest : List Stmt} {m : Env' → Hp → ResS} {g : Env' → Hp → ResS} (e0 : EnvOk cx env sc ns Γ ρ s.heap) (fr : FramesOk cx l ρ s.heap) (x : SimSAt cx A env sc ns (m Γ H) (exec st env) ρ s) (y : SimS cx A l env sc ns (execs rest env) g) :
    SimSAt cx A env sc ns (thenS (m Γ H) g) (execs (st :: rest) env) ρ s := by
  cases e : m Γ H with
  | bad => trivial
  | ret v H' =>
    rw [e] at x
    exact wpAny_execs_cons (wpAny_mono x (fun f s' q => by obtain ⟨v', ρ', rfl, q⟩ := q; exact ⟨v', ρ', rfl, q⟩) fun _ _ q => q)
  | exc c Γ' H' =>
    rw [e] at x
    exact wpAny_execs_cons (wpAny_mono x (fun f s' q => q.elim) fun _ _ q => q)
  | next Γ' H' =>
    rw [e] at x
    show SimSAt cx A env sc ns (g Γ' H') _ ρ s
    cases e2 : g Γ' H' with
    | bad => trivial
    | next Γ2 H2 =>
      refine wpAny_execs_cons (wpAny_mono x (fun f s' q => ?_) fun _ _ q => q.elim)
      obtain ⟨rfl, ρ', F, R, e'⟩ := q
      have z := y Γ' H' ρ' s' R e' (fr.stmt F e0.st e'.st)
      rw [e2] at z
      exact wpAny_mono z (fun f s'' ⟨h1, ρ'', F', R', e'⟩ => ⟨h1, ρ'', F.trans F', R', e'⟩) fun _ _ q => q.elim
    | ret v2 H2 =>
      refine wpAny_execs_cons (wpAny_mono x (fun f s' q => ?_) fun _ _ q => q.elim)
      obtain ⟨rfl, ρ', F, R, e'⟩ := q
      have z := y Γ' H' ρ' s' R e' (fr.stmt F e0.st e'.st)
      rw [e2] at z
      exact wpAny_mono z (fun f s'' ⟨v', ρ'', h1, F', R', e'⟩ => ⟨v', ρ'', h1, F.trans F', R', e'⟩) fun _ _ q => q.elim
    | exc c2 Γ2 H2 =>
      refine wpAny_execs_cons (wpAny_mono x (fun f s' q => ?_) fun _ _ q => q.elim)
      obtain ⟨rfl, ρ', F, R, e'⟩ := q
      have z := y Γ' H' ρ' s' R e' (fr.stmt F e0.st e'.st)
      rw [e2] at z
      exact wpAny_mono z (fun _ _ q => q.elim) fun ex s'' ⟨ρ'', F', R', e', fl⟩ => ⟨ρ'', F.trans F', R', e', fl.older F.live⟩
theorem sk_assign {i : Nat} {y : Str} {mv : Val} {v : Value} (ha : Apart ns) (R : Rel cx H ρ s) (e0 : EnvOk cx env sc ns Γ ρ s.heap) (ho : isOwn sc ns i y = true) (hv : VR cx ρ s.heap mv v) :
    SimSK cx env sc ns (.next (Γ.set i (some mv)) H) (fun Q E s => wpAny (model cx.prog cx.w) A (storeName env y v) (fun _ => Q .next) E s) ρ s :=
  store_var e0.len ha R e0 ho hv fun h' tk F' R' e' _ => ⟨rfl, ρ, F', R', e'⟩
theorem monoK_store {y : Str} {v : Value} : MonoK (α := Flow) fun Q E s => wpAny (model cx.prog cx.w) A (storeName env y v) (fun _ => Q .next) E s := fun _ _ _ _ _ h k1 k2 => wpAny_mono h (fun _ _ => k1 _ _) k2
end
end Mine
-- part MWalk
namespace Mine
open PySem
section
variable {cx : Cx} {N : Names} {A : Around} {Φ : Funs} {l : List Env} {d : Nat} {env : Env} {sc : Scope} {ns : List (Option Str)} {Γ : Env'} {H : Hp} {ρ ρ' : Rho} {s : Shared}
noncomputable def PostS (cx : Cx) (env : Env) (sc : Scope) (ns : List (Option Str)) (ρ : Rho) (h : Heap) (r : ResS) (Q : Flow → Shared → Prop) (E : Value → Shared → Prop) : Prop :=
  match r with
  | .bad => True
  | .next Γ' H' => ∀ s' ρ', FullS env ρ h ρ' s'.heap → Rel cx H' ρ' s' → EnvOk cx env sc ns Γ' ρ' s'.heap → Q .next s'
  | .ret v H' => ∀ s' ρ' v', FullS env ρ h ρ' s'.heap → Rel cx H' ρ' s' → (VR cx ρ' s'.heap v v' ∧ EnvSt cx env sc ρ' s'.heap) → Q (.ret v') s'
  | .exc c Γ' H' => ∀ e s' ρ', FullS env ρ h ρ' s'.heap → Rel cx H' ρ' s' → EnvOk cx env sc ns Γ' ρ' s'.heap → Flying cx ρ' h s'.heap c e → E e s'
theorem SimSK.ofPost {r : ResS} {T : (Flow → Shared → Prop) → (Value → Shared → Prop) → Shared → Prop} (k : ∀ Q E, r ≠ .bad → PostS cx env sc ns ρ s.heap r Q E → T Q E s) : SimSK cx env sc ns r T ρ s := by
  cases r with
  | bad => trivial
  | next Γ' H' => exact k _ _ (fun q => by cases q) fun s' ρ' F R e => ⟨rfl, ρ', F, R, e⟩
  | ret v H' => exact k _ _ (fun q => by cases q) fun s' ρ' v' F R e => ⟨v', ρ', rfl, F, R, e⟩
  | exc c Γ' H' => exact k _ _ (fun q => by cases q) fun e s' ρ' F R e' fl => ⟨ρ', F, R, e', fl⟩
theorem FullS.fresh {h h1 h2 : Heap} {qs : List Addr} (F : FullS env ρ h ρ' h1) (hq : ∀ q ∈ qs, h.get? q = none) (hs : ∀ b o, b ∉ qs → ¬ Owned ρ' b → h1.get? b = some o → h2.get? b = some o) (lv : Live h1 h2) : FullS env ρ h ρ' h2 := by
  refine ⟨F.grow, fun b o e n n1 n2 => ?_, F.live.trans lv⟩
  obtain ⟨o', e', u⟩ := F.keep b o e n n1 n2
  refine ⟨o', hs b o' (fun w => ?_) (F.grow.not n e) e', u⟩
  rw [hq b w] at e; exact no_some e
theorem EnvOk.priv {h h' : Heap} {qs : List Addr} (x : EnvOk cx env sc ns Γ ρ h) (hs : ∀ b o, b ∉ qs → ¬ Owned ρ b → h.get? b = some o → h'.get? b = some o) (hq : ∀ q ∈ qs, ∃ o, h.get? q = some o ∧ IterO o) (st : Step ρ h ρ h') : EnvOk cx env sc ns Γ ρ h' := by
  have nl : env.locals ∉ qs := fun w => by obtain ⟨o, e, i⟩ := hq _ w; exact x.st.notLoc e i.notDict rfl
  have nc : ∀ y c, env.cells.lookup y = some c → c ∉ qs := fun y c hc w => by obtain ⟨o, e, i⟩ := hq _ w; exact x.st.notCell e i.notCell y hc
  have kl : ∀ o, h.get? env.locals = some o → ∃ o', h'.get? env.locals = some o' ∧ o'.data = o.data := fun o e => ⟨o, hs _ o nl x.st.locN e, rfl⟩
  have kc : ∀ y c, env.cells.lookup y = some c → ∀ o, h.get? c = some o → ∃ o', h'.get? c = some o' ∧ o'.data = o.data := fun y c hc o e => ⟨o, hs _ o (nc y c hc) (x.st.cells y c hc).2.1 e, rfl⟩
  obtain ⟨m, hm⟩ := x.st.loc
  refine ⟨⟨x.st.fn, x.st.glob, x.st.blt, x.st.kinds, ⟨m, Heap_Ns_keep hm kl⟩, x.st.locN, x.st.locB, fun y c hc => ?_, x.st.hasCell, x.st.apart⟩, x.len, fun i y mv hi hm => ?_⟩
  · obtain ⟨⟨v, hv⟩, a, b⟩ := x.st.cells y c hc
    exact ⟨⟨v, IsCell_keep hv (kc y c hc)⟩, a, b⟩
  · obtain ⟨v, hv, r⟩ := x.vals i y mv hi hm
    refine ⟨v, ?_, r.step st⟩
    rcases hv with ⟨k, m, hm, e⟩ | ⟨k, c, hc, e⟩
    · exact .inl ⟨k, m, Heap_Ns_keep hm kl, e⟩
    · exact .inr ⟨k, c, hc, IsCell_keep e (kc y c hc)⟩
structure Walk (cx : Cx) (A : Around) (it : Value) (target : Expr) (xs : List Val) (ck : Hp → Bool) where
  Ok : Nat → Rho → Heap → Prop
  priv : List Addr
  obj : ∀ {i ρ h}, Ok i ρ h → ∀ q ∈ priv, (∃ o, h.get? q = some o ∧ IterO o) ∧ ¬ Owned ρ q
  step : ∀ {i ρ h ρ' h'}, Ok i ρ h → Step ρ h ρ' h' → (∀ q ∈ priv, (∀ o, h.get? q = some o → h'.get? q = some o) ∧ ¬ Owned ρ' q) → Ok i ρ' h'
  item : ∀ {i : Nat} {ρ : Rho} {H : Hp} {s : Shared} {m : Val} {Q : Value → Shared → Prop} {E E' : Value → Shared → Prop} {QQ : Option Value → Shared → Prop}, Rel cx H ρ s → Ok i ρ s.heap → ck H = true → xs[i]? = some m → (∀ q ∈ priv, cx.h₀.get? q = none) →
    (∀ v s₁, wpAny (model cx.prog cx.w) A (letOwnedTupleGo target it v) (fun _ s₂ => Q v s₂) E' s₁ → QQ (some v) s₁) →
    (∀ v h' tk, Rel cx H ρ { s with heap := h', toks := tk } → Step ρ s.heap ρ h' → (∀ b o, b ∉ priv → ¬ Owned ρ b → s.heap.get? b = some o → h'.get? b = some o) → Live s.heap h' → VR cx ρ h' m v → Ok (i + 1) ρ h' → Q v { s with heap := h', toks := tk }) →
    wpAny (model cx.prog cx.w) A (pyNext it) QQ E s
  fin : ∀ {i : Nat} {ρ : Rho} {H : Hp} {s : Shared} {Q : Option Value → Shared → Prop} {E : Value → Shared → Prop}, Rel cx H ρ s → Ok i ρ s.heap → ck H = true → xs[i]? = none → (∀ q ∈ priv, cx.h₀.get? q = none) →
    (∀ h' tk, Rel cx H ρ { s with heap := h', toks := tk } → Step ρ s.heap ρ h' → (∀ b o, b ∉ priv → ¬ Owned ρ b → s.heap.get? b = some o → h'.get? b = some o) → Q none { s with heap := h', toks := tk }) →
    wpAny (model cx.prog cx.w) A (pyNext it) Q E s
noncomputable def BindOk (cx : Cx) (A : Around) (env : Env) (sc : Scope) (ns : List (Option Str)) (target : Expr) (bind : Val → Env' → Option Env') : Prop :=
  ∀ (Γ Γ' : Env') (H : Hp) (ρ : Rho) (s : Shared) (m : Val) (v : Value) (Q : Unit → Shared → Prop) (E : Value → Shared → Prop), bind m Γ = some Γ' → Rel cx H ρ s → EnvOk cx env sc ns Γ ρ s.heap → VR cx ρ s.heap m v →
    (∀ h' tk, FullS env ρ s.heap ρ h' → Rel cx H ρ { s with heap := h', toks := tk } → EnvOk cx env sc ns Γ' ρ h' → Q () { s with heap := h', toks := tk }) → wpAny (model cx.prog cx.w) A (assign target env v) Q E s
theorem bind_name {i : Nat} {y : Str} {py : Pos} (ha : Apart ns) (ho : isOwn sc ns i y = true) : BindOk cx A env sc ns (.Name y py) (bind1 i) := by
  intro Γ Γ' H ρ s m v Q E hb R e0 vr k
  cases hb
  exact wpAny_assign_Name (store_var e0.len ha R e0 ho vr fun h' tk F R' e' _ => k h' tk F R' e')
theorem loop_raise {H : Hp} {c : Nat} {e : Value} {h : Heap} {ρ₀ : Rho} {E : Value → Shared → Prop} (hfr : A.frames = some (env :: l)) (R : Rel cx H ρ s) (fr : FramesOk cx (env :: l) ρ s.heap) (e0 : EnvOk cx env sc ns Γ ρ s.heap) (lb : Live cx.h₀ h) (F : FullS env ρ₀ h ρ s.heap) (fl : Flying cx ρ h s.heap c e)
    (k : ∀ s', FullS env ρ₀ h ρ s'.heap → Rel cx H ρ s' → EnvOk cx env sc ns Γ ρ s'.heap → Flying cx ρ h s'.heap c e → E e s') :
    notedBy (model cx.prog cx.w) A env (fun e s' => cameBackBy (model cx.prog cx.w) A env E e s') e s := by
  refine hideG fun G kG => ?_
  obtain ⟨_, L, _, hf, _⟩ := fr env (.head _)
  refine kG ?_
  refine wp_note hfr hf fr R lb F.live fl fun h1 o1 fl1 => wp_back (s := { s with heap := h1 }) lb fl1 fun h2 o2 fl2 => ?_
  have o := o1.trans o2
  exact k { s with heap := h2 } (o.fullS F) (o.rel R) (o.envK e0) fl2.to
theorem sim_loop {it : Value} {target : Expr} {xs : List Val} {ck : Hp → Bool} {bind : Val → Env' → Option Env'} {body : MSs} {stmts : List Stmt} {ρ₁ : Rho} {s₁ : Shared} (W : Walk cx A it target xs ck) (hfr : A.frames = some (env :: l)) (hB : BindOk cx A env sc ns target bind)
    (hb : SimS cx A (env :: l) env sc ns (execs stmts env) (execSs cx.T Φ body))
    (e1 : EnvOk cx env sc ns Γ ρ₁ s₁.heap) (fr : FramesOk cx (env :: l) ρ₁ s₁.heap) (lvB : Live cx.h₀ s₁.heap) (hpriv : ∀ q ∈ W.priv, s₁.heap.get? q = none)
    {s : Shared} {H : Hp} {ρ : Rho} (F0 : FullS env ρ₁ s₁.heap ρ s.heap) (R0 : Rel cx H ρ s) (e0 : EnvOk cx env sc ns Γ ρ s.heap) (ok : W.Ok 0 ρ s.heap) {Q : Flow → Shared → Prop} {E : Value → Shared → Prop}
    (nb : eachL ck bind (execSs cx.T Φ body) xs Γ H ≠ .bad) (p : PostS cx env sc ns ρ₁ s₁.heap (eachL ck bind (execSs cx.T Φ body) xs Γ H) Q E) :
    codeAny (model cx.prog cx.w) A (.forLoop target it stmts [] env) (fun r s' => match r with | .ok f => Q f s' | .error e => cameBackBy (model cx.prog cx.w) A env E e s') s := by
  generalize hres : eachL ck bind (execSs cx.T Φ body) xs Γ H = res at nb p
  refine codeAny_forLoop_any (fun n s => ∃ i Γ H ρ, FullS env ρ₁ s₁.heap ρ s.heap ∧ Rel cx H ρ s ∧ EnvOk cx env sc ns Γ ρ s.heap ∧ W.Ok i ρ s.heap ∧ i ≤ xs.length ∧ n = xs.length + 1 - i ∧ eachL ck bind (execSs cx.T Φ body) (xs.drop i) Γ H = res) ?_ (xs.length + 1)
    ⟨0, Γ, H, ρ, F0, R0, e0, ok, Nat.zero_le _, rfl, hres⟩
  have privB : ∀ q ∈ W.priv, cx.h₀.get? q = none := fun q hq => lvB.none (hpriv q hq)
  clear F0 R0 e0 ok hres
  intro n s zz
  obtain ⟨i, Γ, H, ρ, F, R, e0, ok, hi, hr0, hr⟩ := zz
  cases hx : xs[i]? with
  | none =>
    rw [List.drop_eq_nil_of_le (List.getElem?_eq_none_iff.mp hx)] at hr
    rw [eachL_nil] at hr
    by_cases ckh : ck H = true
    · rw [if_pos ckh] at hr
      subst hr
      refine W.fin R ok ckh hx privB fun h' tk R' st ex => ?_
      refine wpAny_execs_nil ?_
      have e' : EnvOk cx env sc ns Γ ρ h' := e0.priv ex (fun q hq => (W.obj ok q hq).1) st
      have F' : FullS env ρ₁ s₁.heap ρ h' := by
        refine ⟨F.grow, fun b o e n n1 n2 => ?_, fun b o e => ?_⟩
        · obtain ⟨o', eo', u⟩ := F.keep b o e n n1 n2
          exact ⟨o', ex b o' (fun w => by rw [hpriv b w] at e; cases e) (F.grow.not n e) eo', u⟩
        · by_cases ow : Owned ρ b
          · exact R'.owned_lt ow
          · obtain ⟨o', eo'⟩ := F.live b o e
            exact ⟨o', ex b o' (fun w => by rw [hpriv b w] at e; cases e) ow eo'⟩
      exact p _ ρ F' R' e'
    · rw [if_neg ckh] at hr; exact absurd hr.symm nb
  | some m =>
    have lt : i < xs.length := (List.getElem?_eq_some_iff.mp hx).1
    have hdrop : xs.drop i = m :: xs.drop (i + 1) := by
      rw [List.drop_eq_getElem_cons lt]
      rw [List.getElem?_eq_getElem lt] at hx
      cases hx; rfl
    rw [hdrop] at hr
    rw [eachL_cons] at hr
    by_cases ckh : ck H = true
    · rw [if_pos ckh] at hr
      cases hbd : bind m Γ with
      | none => rw [hbd] at hr; exact absurd hr.symm nb
      | some Γ1 =>
        rw [hbd] at hr
        dsimp only at hr
        refine W.item R ok ckh hx privB (fun v s₁ h => h) fun v h' tk R' st ex lv vr ok' => ?_
        · -- what comes behind the item
          have e' : EnvOk cx env sc ns Γ ρ h' := e0.priv ex (fun q hq => (W.obj ok q hq).1) st
          have F' : FullS env ρ₁ s₁.heap ρ h' := F.fresh hpriv ex lv
          refine hB Γ Γ1 H ρ { s with heap := h', toks := tk } m v _ _ hbd R' e' vr fun h2 tk2 F2 R2 e2 => ?_
          have F12 : FullS env ρ₁ s₁.heap ρ h2 := F'.trans F2
          have priv2 : ∀ q ∈ W.priv, (∀ o, h'.get? q = some o → h2.get? q = some o) ∧ ¬ Owned ρ q := fun q hq => by
            obtain ⟨⟨o, eo, io⟩, no⟩ := W.obj ok' q hq
            refine ⟨fun o2 eo2 => ?_, no⟩
            rw [eo] at eo2; cases eo2
            obtain ⟨o3, eo3, u⟩ := F2.keep q o eo no (e'.st.notLoc eo io.notDict) (e'.st.notCell eo io.notCell)
            rw [eo3, u.exact io.notDict]
          have ok2 : W.Ok (i + 1) ρ h2 := W.step ok' (FullS.step e'.st F2) priv2
          have fr2 : FramesOk cx (env :: l) ρ h2 := fr.stmt F12 e1.st e2.st
          have B := hb Γ1 H ρ { s with heap := h2, toks := tk2 } R2 e2 fr2
          cases hbody : execSs cx.T Φ body Γ1 H with
          | bad => rw [hbody] at hr; exact absurd hr.symm nb
          | next Γ3 H3 =>
            rw [hbody] at hr B
            dsimp only [thenS] at hr
            refine wpAny_mono B (fun f s3 q => ?_) fun _ _ q => q.elim
            obtain ⟨rfl, ρ3, F3, R3, e3⟩ := q
            refine ⟨xs.length + 1 - (i + 1), by omega, i + 1, Γ3, H3, ρ3, F12.trans F3, R3, e3, ?_, lt, rfl, hr⟩
            refine W.step ok2 (FullS.step e2.st F3) fun q hq => ?_
            refine hideG fun G kG => ?_
            obtain ⟨⟨o, eo, io⟩, no⟩ := W.obj ok2 q hq
            refine kG ?_
            refine ⟨fun o2 eo2 => ?_, F3.grow.not no eo⟩
            rw [eo] at eo2; cases eo2
            obtain ⟨o3, eo3, u⟩ := F3.keep q o eo no (e2.st.notLoc eo io.notDict) (e2.st.notCell eo io.notCell)
            rw [eo3, u.exact io.notDict]
          | ret v3 H3 =>
            rw [hbody] at hr B
            dsimp only [thenS] at hr
            subst hr
            refine wpAny_mono B (fun f s3 q => ?_) fun _ _ q => q.elim
            refine hideG fun G kG => ?_
            obtain ⟨v', ρ3, rfl, F3, R3, vr3⟩ := q
            refine kG ?_
            exact p s3 ρ3 v' (F12.trans F3) R3 vr3
          | exc c3 Γ3 H3 =>
            rw [hbody] at hr B
            dsimp only [thenS] at hr
            subst hr
            refine wpAny_mono B (fun _ _ q => q.elim) fun e s3 ⟨ρ3, F3, R3, e3, fl⟩ => ?_
            exact loop_raise hfr R3 (fr.stmt (F12.trans F3) e1.st e3.st) e3 lvB (F12.trans F3) (fl.older F12.live) fun s4 F4 R4 e4 fl4 => p e s4 ρ3 F4 R4 e4 fl4
    · rw [if_neg ckh] at hr; exact absurd hr.symm nb
noncomputable def plainWalk (hh : A.handled = none) (xs : List Val) (I : Addr) (src : Option Nat) (y : Str) (py : Pos) : Walk cx A (.ref I) (.Name y py) xs (chk src xs) where
  Ok i ρ h := ItOk cx xs I i ρ h src ∧ ¬ Owned ρ I
  priv := [I]
  obj := fun ⟨h1, h2⟩ q hq => by rw [List.mem_singleton.mp hq]; exact ⟨h1.obj, h2⟩
  step := fun ⟨h1, h2⟩ st k => ⟨h1.step st (k I (.head _)).1, (k I (.head _)).2⟩
  item := by
    intro i ρ H s m Q E E' QQ R ⟨ok, no⟩ ck hx hb qq k
    obtain ⟨o, e, io⟩ := ok.obj
    refine iter_item R ok ck hx fun v h' tk hs hl kk => qq v _ ?_
    obtain ⟨o', e'⟩ := hl
    have st : Step ρ s.heap ρ h' := Step.but e' e hs io.not.1 io.not.2
    obtain ⟨vr, ok'⟩ := kk st
    refine wpAny_pure (k v h' tk (R.but e' e hs io.not.1 io.not.2 no (hb I (.head _))) st (fun b o nb _ eb => by rw [hs.2 b (fun w => nb (w ▸ .head _))]; exact eb) (SameBut.live hs e') vr ⟨ok', no⟩)
  fin := by
    intro i ρ H s Q E R ⟨ok, no⟩ ck hx hb k
    obtain ⟨o, e, io⟩ := ok.obj
    refine iter_end hh R ok ck hx fun h' tk he => ?_
    exact k h' tk (R.ext e he io.not.1 io.not.2 no (hb I (.head _))) (Step.ext e he io.not.1 io.not.2) fun b o nb _ eb => he b o (fun w => nb (w ▸ .head _)) eb
theorem cameBack_mono {E E' : Value → Shared → Prop} {e : Value} {M : Model} (h : cameBackBy M A env E e s) (k : ∀ e s, E e s → E' e s) : cameBackBy M A env E' e s := wpAny_mono h (fun _ _ => k _ _) k
theorem sim_each {i : Nat} {it : ME} {body : MSs} {y : Str} {x : Expr} {stmts : List Stmt} {py pos : Pos} (hh : A.handled = none) (hfr : A.frames = some (env :: l)) (ha : Apart ns) (ho : isOwn sc ns i y = true) (hn : notSet x = true)
    (hx : ∀ Γ : Env', Γ.length = ns.length → EOk cx A ((Amb.env cx env sc ns Γ).and (Amb.frames cx (env :: l))) Φ env Γ it x) (hb : SimS cx A (env :: l) env sc ns (execs stmts env) (execSs cx.T Φ body)) :
    SimS cx A (env :: l) env sc ns (exec (.For (.Name y py) x stmts [] pos) env) (execS cx.T Φ (.each i it body)) := by
  intro Γ H ρ s R e0 fr
  refine SimSK.to ?_
  refine SimSAt.bindK (K := fun xv Q E s => wpAny (model cx.prog cx.w) A (pyIter xv) (fun it s₂ => codeAny (model cx.prog cx.w) A (.forLoop (.Name y py) it stmts [] env) (fun r s' => match r with | .ok f => Q f s' | .error e => cameBackBy (model cx.prog cx.w) A env E e s') s₂) E s) e0 ((hx Γ e0.len).val H ρ s R ⟨e0, fr⟩) ?_ ?_ ?_
  · intro v xv H1 ρ1 s1 _ F1 R1 e1 vr
    refine SimSK.look fun pr hp => ?_
    obtain ⟨xs, src⟩ := pr
    refine SimSK.ofPost fun Q E nb p => ?_
    refine iter_start R1 vr hp fun o go it0 => ?_
    have F2 : Full ρ1 s1.heap ρ1 (s1.heap.push o) := Full.push _ _ _
    exact sim_loop (plainWalk hh xs s1.heap.objs.size src y py) hfr (bind_name ha ho) hb e1 ((Amb.frames cx (env :: l)).st _ _ _ _ fr F1) (fun b o e => ⟨o, R1.base b o e⟩) (fun q hq => by rw [List.mem_singleton.mp hq]; exact fresh_none _) F2.toS (R1.push o s1.toks) (e1.full F2) ⟨it0, R1.fresh_not (fresh_none _)⟩ nb p
  · intro xv Q E Q' E' s h k1 k2
    exact wpAny_mono h (fun it s₂ h2 => codeAny_mono h2 fun r s' hr => by
      cases r with
      | ok f => exact k1 _ _ hr
      | error e => exact cameBack_mono hr k2) k2
  · intro Q E h
    exact wpAny_For h (fun xv => foldedSet_of hn env xv)
end
end Mine
-- part MZip
namespace Mine
open PySem
section
variable {cx : Cx} {N : Names} {A : Around} {Φ : Funs} {l : List Env} {d : Nat} {env : Env} {sc : Scope} {ns : List (Option Str)} {Γ : Env'} {H : Hp} {ρ ρ' : Rho} {s : Shared}
theorem bind_pair (hh : A.handled = none) {i j : Nat} {y z : Str} {py pz pt : Pos} {k : Nat} (ha : Apart ns) (hy : isOwn sc ns i y = true) (hz : isOwn sc ns j z = true) : BindOk cx A env sc ns (.Tuple [.Name y py, .Name z pz] k pt) (bind2 i j) := by
  intro Γ Γ' H ρ s m v Q E hb R e0 vr kk
  obtain ⟨⟨a, b⟩, e1, hb⟩ := Option.map_eq_some_iff.mp hb
  cases vTwo_el e1
  cases hb
  · cases vr with
    | @tup t vs n ms g no zz r =>
      cases r with
      | @cons _ va _ _ ra r =>
        cases r with
        | @cons _ vb _ _ rb r =>
          cases r
          refine wpAny_assign_Tuple (items := [va, vb].toArray) hh ⟨_, g, rfl, n, rfl⟩ rfl rfl fun h1 ex => ?_
          have kp : ∀ b o, s.heap.get? b = some o → h1.get? b = some o := fun b o e => ex b o (Nat.ne_of_lt (Heap.lt_size e)) e
          have F1 : Full ρ s.heap ρ h1 := Full.more kp
          have R1 : Rel cx H ρ { s with heap := h1 } := R.more (tk := s.toks) kp
          refine wpAny_assignInOrder_more (wpAny_assign_Name (store_var (s := { s with heap := h1 }) (e0.full F1).len ha R1 (e0.full F1) hy (ra.step F1.step) fun h2 tk2 F2 R2 e2 _ => ?_))
          have St2 := FullS.step (e0.full F1).st F2
          refine wpAny_assignInOrder_more (wpAny_assign_Name (store_var (s := { s with heap := h2, toks := tk2 }) e2.len ha R2 e2 hz ((rb.step F1.step).step St2) fun h3 tk3 F3 R3 e3 _ => ?_))
          exact wpAny_assignInOrder_none (kk h3 tk3 ((F1.toS.trans F2).trans F3) R3 e3)
theorem listIterO {h : Heap} {i l : Addr} {k : Nat} (x : h.IsListIter i l k) : ∃ o, h.get? i = some o ∧ IterO o := by obtain ⟨o, e, c, d⟩ := x; exact ⟨o, e, ⟨_, d⟩, _, c, by decide⟩
theorem iterO_ne {h : Heap} {a b : Addr} {o : Obj} (x : ∃ o, h.get? a = some o ∧ IterO o) (e : h.get? b = some o) (n : ∀ vs, o.data ≠ .fields vs) : a ≠ b := fun w => by
  obtain ⟨o', e', ⟨vs, d⟩, _⟩ := x
  rw [w, e] at e'; cases e'
  exact n vs d
noncomputable def RawIt (_ : Bool) (h : Heap) (I a : Addr) (k : Nat) (items : Array Value) : Prop := h.IsListIter I a k ∧ h.IsList a items
section
variable {b : Bool} {h h' : Heap} {I a c : Addr} {k : Nat} {items : Array Value}
theorem RawIt.ext (x : RawIt b h I a k items) (hs : Heap.ExtBut c h h') (n1 : I ≠ c) (n2 : a ≠ c) : RawIt b h' I a k items := ⟨x.1.extBut hs n1, x.2.extBut hs n2⟩
theorem RawIt.obj (x : RawIt b h I a k items) : ∃ o, h.get? I = some o ∧ IterO o := listIterO x.1
theorem RawIt.ne (x : RawIt b h I a k items) : a ≠ I := fun w => by
  obtain ⟨o', e', c, n, d'⟩ := x.2
  exact iterO_ne x.obj e' (fun vs q => by rw [d'] at q; cases q) w.symm
end
theorem step_priv {h h' : Heap} {qs : List Addr} (hq : ∀ q ∈ qs, Owned ρ q ∨ ∃ o, h.get? q = some o ∧ IterO o) (k : ∀ b o, b ∉ qs → h.get? b = some o → h'.get? b = some o) : Step ρ h ρ h' := by
  refine ⟨⟨[], by simp⟩, fun b o e f n => ⟨k b o (fun w => ?_) e, n⟩, fun b o C e f n => ⟨o, k b o (fun w => ?_) e, f, n⟩⟩
  · rcases hq b w with w | ⟨o', e', io⟩
    · exact n w
    · rw [e] at e'; cases e'; exact io.not.1 f
  · rcases hq b w with w | ⟨o', e', io⟩
    · exact n w
    · rw [e] at e'; cases e'; exact io.not.2 C f
inductive ZIt (cx : Cx) (xs : List Val) (I : Addr) (i : Nat) (ρ : Rho) (h : Heap) : Option Nat → Prop
  | list {l : Nat} {p : Addr × Addr} : ρ[l]? = some p → h.IsListIter I p.1 i → ZIt cx xs I i ρ h (some l)
section
variable {xs : List Val} {I : Addr} {i : Nat} {src : Option Nat}
theorem ZIt.obj {h : Heap} (x : ZIt cx xs I i ρ h src) : ∃ o, h.get? I = some o ∧ IterO o := by
  cases x with
  | list hp hi => exact listIterO hi
theorem ZIt.step {h h' : Heap} (x : ZIt cx xs I i ρ h src) (st : Step ρ h ρ' h') (k : ∀ o, h.get? I = some o → h'.get? I = some o) : ZIt cx xs I i ρ' h' src := by
  cases x with
  | list hp hi => exact .list (st.get hp) (hi.at k)
end
structure ZOk (cx : Cx) (xs ys : List Val) (l1 l2 : Option Nat) (hl : Nat) (z TI i1 i2 : Addr) (i : Nat) (ρ : Rho) (h : Heap) : Prop where
  zip : ∃ TO, ρ[hl]? = some (TO, TO) ∧ IsZip h z TI TO .none
  ti : h.get? TI = some (tupO [.ref i1, .ref i2] 0) ∧ ¬ Owned ρ TI
  it1 : ZIt cx xs i1 i ρ h l1
  it2 : ZIt cx ys i2 i ρ h l2
  no : ¬ Owned ρ z ∧ ¬ Owned ρ i1 ∧ ¬ Owned ρ i2
end
end Mine
-- part MFor
namespace Mine
open PySem
section
variable {cx : Cx} {N : Names} {A : Around} {Φ : Funs} {l : List Env} {d : Nat} {env : Env} {sc : Scope} {ns : List (Option Str)} {Γ : Env'} {H : Hp} {ρ ρ' : Rho} {s : Shared}
set_option tactic.hygienic true in
theorem listOf_eq {v : Val} {H : Hp} {xs : List Val} {l : Nat} (h : listOf v H = some (xs, l)) : v = .loc l ∧ H[l]? = some (.list xs) := by
  unfold listOf at h
  split at h
  · split at h
    · rename_i hl; cases h; exact ⟨rfl, hl⟩
    · exact no_some h
  · exact no_some h
theorem enum_mem : (("enumerate" : Str), Value.type "enumerate") ∈ bltTab := by
  unfold bltTab
  repeat (first | exact List.Mem.head _ | apply List.Mem.tail)
noncomputable abbrev loopK (cx : Cx) (A : Around) (env : Env) (target : Expr) (stmts : List Stmt) (zv : Value) : (Flow → Shared → Prop) → (Value → Shared → Prop) → Shared → Prop := fun Q E s =>
  wpAny (model cx.prog cx.w) A (pyIter zv) (fun it s₂ => codeAny (model cx.prog cx.w) A (.forLoop target it stmts [] env) (fun r s' => match r with | .ok f => Q f s' | .error e => cameBackBy (model cx.prog cx.w) A env E e s') s₂) E s
theorem loopK_mono {target : Expr} {stmts : List Stmt} {zv : Value} : MonoK (loopK cx A env target stmts zv) := by
  intro Q E Q' E' s h k1 k2
  exact wpAny_mono h (fun it s₂ h2 => codeAny_mono h2 fun r s' hr => by
    cases r with
    | ok f => exact k1 _ _ hr
    | error e => exact cameBack_mono hr k2) k2
theorem enumO {h : Heap} {e it : Addr} {i : Int} {f : Value} (x : IsEnum h e it i f) : ∃ o, h.get? e = some o ∧ IterO o := ⟨_, x, ⟨_, rfl⟩, _, rfl, by decide⟩
theorem countUp_get : ∀ {xs : List Val} {n i : Nat} {m : Val}, (countUp n xs)[i]? = some m → ∃ a, xs[i]? = some a ∧ m = .tup [.int ((n + i : Nat) : Int), a]
  | [], _, _, _, h => by simp [countUp] at h
  | a :: xs, n, 0, m, h => by simp [countUp] at h; exact ⟨a, rfl, by rw [← h]; rfl⟩
  | a :: xs, n, i + 1, m, h => by
    have h' : (countUp (n + 1) xs)[i]? = some m := by simpa [countUp] using h
    obtain ⟨a', h1, h2⟩ := countUp_get h'
    exact ⟨a', by simpa using h1, by rw [h2, show n + 1 + i = n + (i + 1) by omega]⟩
theorem countUp_none : ∀ {xs : List Val} {n i : Nat}, (countUp n xs)[i]? = none → xs[i]? = none
  | [], _, _, _ => by simp
  | a :: xs, n, 0, h => by simp [countUp] at h
  | a :: xs, n, i + 1, h => by
    have h' : (countUp (n + 1) xs)[i]? = none := by simpa [countUp] using h
    simpa using countUp_none h'
structure EnOk (cx : Cx) (xs : List Val) (l1 : Nat) (e it : Addr) (i : Nat) (ρ : Rho) (h : Heap) : Prop where
  en : ∃ old, IsEnum h e it i old
  it1 : ∃ p, ρ[l1]? = some p ∧ h.IsListIter it p.1 i
  no : ¬ Owned ρ e ∧ ¬ Owned ρ it
noncomputable def enumWalk (hh : A.handled = none) (xs : List Val) (l1 : Nat) (e it : Addr) (n1 : e ≠ it) (elts : List Expr) (k : Nat) (pt : Pos) : Walk cx A (.ref e) (.Tuple elts k pt) (countUp 0 xs) (chk (some l1) xs) where
  Ok i ρ h := EnOk cx xs l1 e it i ρ h
  priv := [e, it]
  obj := by
    intro i ρ h ok q hq
    refine hideG fun G kG => ?_
    obtain ⟨old, he⟩ := ok.en
    obtain ⟨p1, _, hi1⟩ := ok.it1
    refine kG ?_
    simp only [List.mem_cons, List.not_mem_nil, or_false] at hq
    rcases hq with rfl | rfl
    · exact ⟨enumO he, ok.no.1⟩
    · exact ⟨listIterO hi1, ok.no.2⟩
  step := by
    intro i ρ h ρ' h' ok st kk
    refine hideG fun G kG => ?_
    obtain ⟨old, he⟩ := ok.en
    obtain ⟨p1, e1, hi1⟩ := ok.it1
    refine kG ?_
    have kz := kk e (by simp)
    have k1 := kk it (by simp)
    exact ⟨⟨old, kz.1 _ he⟩, ⟨p1, st.get e1, hi1.at k1.1⟩, kz.2, k1.2⟩
  item := by
    intro i ρ H s m Q E E' QQ R ok ck hx hb qq kk
    obtain ⟨old, he⟩ := ok.en
    obtain ⟨p1, e1, hi1⟩ := ok.it1
    have H1 := chk_el ck
    obtain ⟨vs, nv, pp1, g1, r1, z1⟩ := R.listAt H1 e1
    obtain ⟨a, ha, rfl⟩ := countUp_get hx
    obtain ⟨va, eva, ra⟩ := r1.get ha
    refine wpAny_pyNext_enum_item (items := vs.toArray) (x := va) he hi1 ⟨_, g1, rfl, nv, rfl⟩ (by simpa using eva) n1 fun h1 he1 hi1' hT1 hsz1 hk1 => qq _ _ ?_
    refine wpAny_letOwnedTupleGo_enum he1 fun h2 he2 hs2 => ?_
    have zT : s.heap.objs.size ≠ e := fun w => by have := Heap.lt_size he; rw [← w] at this; exact Nat.lt_irrefl _ this
    have keep : ∀ b o, b ∉ [e, it] → s.heap.get? b = some o → h2.get? b = some o := fun b o nb eb => by
      simp only [List.mem_cons, List.not_mem_nil, or_false, not_or] at nb
      exact hs2.extBut _ _ nb.1 (hk1 b o nb.1 nb.2 eb)
    have hT2 : h2.get? s.heap.objs.size = some (tupO [.int i s.toks, va] 0) := hs2.extBut _ _ zT hT1
    have hi1'' := hi1'.extBut hs2.extBut n1.symm
    have st : Step ρ s.heap ρ h2 := step_priv (qs := [e, it]) (fun q hq => by
      simp only [List.mem_cons, List.not_mem_nil, or_false] at hq
      rcases hq with rfl | rfl
      · exact .inr (enumO he)
      · exact .inr (listIterO hi1)) keep
    have R2 : Rel cx H ρ { s with heap := h2, toks := s.toks + 1 } := by
      refine R.same st (fun b o ow eb => keep b o (by simp only [List.mem_cons, List.not_mem_nil, or_false, not_or]; exact ⟨fun w => ok.no.1 (w ▸ ow), fun w => ok.no.2 (w ▸ ow)⟩) eb) fun b o eb => keep b o ?_ (R.base b o eb)
      simp only [List.mem_cons, List.not_mem_nil, or_false, not_or]
      refine ⟨fun w => ?_, fun w => ?_⟩
      · rw [w, hb e (by simp)] at eb; exact nomatch eb
      · rw [w, hb it (by simp)] at eb; exact nomatch eb
    have lv : Live s.heap h2 := fun b o eb => by
      by_cases q : b ∈ [e, it]
      · simp only [List.mem_cons, List.not_mem_nil, or_false] at q
        rcases q with rfl | rfl
        · exact ⟨_, he2⟩
        · obtain ⟨o, e, _⟩ := hi1''; exact ⟨o, e⟩
      · exact ⟨o, keep b o q eb⟩
    refine kk _ h2 (s.toks + 1) R2 st (fun b o nb no eb => keep b o nb eb) lv ?_ ?_
    · refine .tup hT2 (R.fresh_not (fresh_none _)) (show 2 ≤ sizeLine by skip; decide) (.cons ?_ (.cons (ra.step st) .nil))
      rw [Nat.zero_add]; exact .int _ _
    · refine ⟨⟨va, ?_⟩, ⟨p1, e1, hi1''⟩, ok.no⟩
      have e' : (((i + 1 : Nat)) : Int) = (i : Int) + 1 := by omega
      skip; exact he2
  fin := by
    intro i ρ H s Q E R ok ck hx hb kk
    refine hideG fun G kG => ?_
    obtain ⟨old, he⟩ := ok.en
    obtain ⟨p1, e1, hi1⟩ := ok.it1
    have H1 := chk_el ck
    obtain ⟨vs, nv, pp1, g1, r1, z1⟩ := R.listAt H1 e1
    have hn := countUp_none hx
    obtain ⟨oi, ei, ioi⟩ := listIterO hi1
    refine kG ?_
    refine wpAny_pyNext_enum_end hh he hi1 ⟨_, g1, rfl, nv, rfl⟩ (by rw [List.getElem?_eq_none_iff] at hn; have := r1.length; simp; omega) fun h' keep => ?_
    exact kk h' s.toks (R.ext ei keep ioi.not.1 ioi.not.2 ok.no.2 (hb it (by simp))) (Step.ext ei keep ioi.not.1 ioi.not.2) fun b o nb _ eb => keep b o (fun w => nb (by rw [w]; simp)) eb
theorem sim_eachEnum (B : Base cx N) {i j : Nat} {a : ME} {body : MSs} {y z f : Str} {p : Expr} {stmts : List Stmt} {py pz pt fp cp pos : Pos} {kk : Nat} (hh : A.handled = none) (hfr : A.frames = some (env :: l)) (ha : Apart ns) (hy : isOwn sc ns i y = true) (hz : isOwn sc ns j z = true)
    (hg : isGlob sc f = true) (hf : f = ("enumerate" : Str)) (np : notStar p = true)
    (hp : ∀ Γ : Env', Γ.length = ns.length → EOk cx A ((Amb.env cx env sc ns Γ).and (Amb.frames cx (env :: l))) Φ env Γ a p)
    (hb : SimS cx A (env :: l) env sc ns (execs stmts env) (execSs cx.T Φ body)) :
    SimS cx A (env :: l) env sc ns (exec (.For (.Tuple [.Name y py, .Name z pz] kk pt) (.Call (.Name f fp) [p] [] cp) stmts [] pos) env) (execS cx.T Φ (.eachEnum i j a body)) := by
  refine hideG fun G kG => ?_
  obtain ⟨mg, mb, ng, nb', _, _, _, tab⟩ := B.ns
  have q12 : mg ("enumerate" : Str) = none ∧ mb ("enumerate" : Str) = some (.type "enumerate") := tab _ enum_mem
  obtain ⟨q1, q2⟩ := q12
  refine kG ?_
  rw [← hf] at q1 q2
  intro Γ H ρ s R e0 fr
  refine SimSK.to ?_
  refine SimSAt.bindK (K := fun va Q E s => wpAny (model cx.prog cx.w) A (call (.type "enumerate") [va]) (fun zv s'' => loopK cx A env (.Tuple [.Name y py, .Name z pz] kk pt) stmts zv Q E s'') E s) e0 ((hp Γ e0.len).val H ρ s R ⟨e0, fr⟩) ?_ ?_ ?_
  · intro v va H2 ρ2 s2 _ F1 R2 e2 vr1
    have fr2 : FramesOk cx (env :: l) ρ2 s2.heap := fr.full F1
    refine SimSK.look fun pr1 h1 => ?_
    obtain ⟨xs, l1⟩ := pr1
    obtain ⟨rfl, H1'⟩ := listOf_eq h1
    refine SimSK.ofPost fun Q E nb p => ?_
    cases vr1 with
    | @loc _ p1 e1' =>
      refine hideG fun G kG => ?_
      obtain ⟨vs, nv, pp1, g1, r1, z1⟩ := R2.listAt H1' e1'
      refine kG ?_
      refine call_enumerate_1 (items := vs.toArray) g1 fun h3 he3 hi1 hsz kp => ?_
      refine wpAny_pyIter_enum he3 ?_
      have fresh : ∀ k, s2.heap.get? (s2.heap.objs.size + k) = none := fun k => fresh_le (Nat.le_add_right _ _)
      have F3 : Full ρ2 s2.heap ρ2 h3 := Full.more kp
      have R3 : Rel cx H2 ρ2 { s2 with heap := h3 } := R2.more (tk := s2.toks) kp
      refine sim_loop (enumWalk hh xs l1 (s2.heap.objs.size + 1) s2.heap.objs.size (Nat.succ_ne_self _) [.Name y py, .Name z pz] kk pt) hfr (bind_pair hh ha hy hz) hb e2 fr2 (fun b o e => ⟨o, R2.base b o e⟩) ?_ F3.toS R3 (e2.full F3) ?_ nb p
      · intro q hq
        have hq' : q = s2.heap.objs.size + 1 ∨ q = s2.heap.objs.size := by
          have hq2 : q ∈ [s2.heap.objs.size + 1, s2.heap.objs.size] := hq
          simpa using hq2
        rcases hq' with rfl | rfl
        · exact fresh 1
        · exact fresh 0
      · exact ⟨⟨_, he3⟩, ⟨p1, e1', hi1⟩, R2.fresh_not (fresh 1), R2.fresh_not (fresh 0)⟩
  · intro va Q E Q' E' s h k1 k2
    exact wpAny_mono h (fun zv s'' h'' => loopK_mono _ _ _ _ _ h'' k1 k2) k2
  · intro Q E h
    refine wpAny_For ?_ (fun xv => rfl)
    refine wpAny_Call_ofName (wp_glob R e0.st hg ng nb' (v := .type "enumerate") (.inr ⟨q1, q2⟩) ?_)
    have pl : plainArgs env [p] := ⟨starEach_plain np, trivial⟩
    rw [plainArgs_trees cp pl]
    refine PyProof.Rows.callWith_type (any_false _) (Calls.evalArgs_plain (Calls.spliced_cons (wpAny_mono h (fun v s' h' => ?_) fun _ _ q => q)))
    exact Calls.spliced_nil h'
end
end Mine
-- part MAssign
namespace Mine
open PySem
section
variable {cx : Cx} {N : Names} {A : Around} {Φ : Funs} {l : List Env} {d : Nat} {env : Env} {sc csc : Scope} {ns : List (Option Str)} {Γ : Env'} {H : Hp} {ρ ρ' : Rho} {s : Shared}
theorem swaps_not {m : ME} {x : Expr} {t : Option Expr} {ln : Nat} (h : ck N sc ns m x = true) (hm : ∀ a b c, m ≠ .comp a b c) : swapsWith x t ln env = pure false := by
  have z := ck_head h
  have hc : isComp m = false := by cases m <;> first | rfl | exact absurd rfl (hm _ _ _)
  rw [hc] at z
  cases x <;> first | rfl | exact no_true z
theorem swaps_name {x : Expr} {y : Str} {py : Pos} {ln : Nat} : swapsWith x (some (.Name y py)) ln env = pure true ∨ swapsWith x (some (.Name y py)) ln env = pure false := by
  have : ∃ b, swapsWith x (some (.Name y py)) ln env = pure b := by cases x <;> exact ⟨_, rfl⟩
  obtain ⟨b, e⟩ := this
  cases b
  · exact .inr e
  · exact .inl e
theorem sim_assign_plain {i : Nat} {m : ME} {y : Str} {x : Expr} {py pos : Pos} (ha : Apart ns) (ho : isOwn sc ns i y = true) (hs : swapsWith x (some (.Name y py)) pos.line env = pure false)
    (hx : ∀ Γ : Env', Γ.length = ns.length → EOk cx A ((Amb.env cx env sc ns Γ).and (Amb.frames cx l)) Φ env Γ m x) :
    SimS cx A l env sc ns (exec (.Assign [.Name y py] x pos) env) (execS cx.T Φ (.assign i m)) := by
  intro Γ H ρ s R e0 fr
  refine SimSK.to (SimSAt.bindK (K := fun v Q E s => wpAny (model cx.prog cx.w) A (storeName env y v) (fun _ => Q .next) E s) e0 ((hx Γ e0.len).val H ρ s R ⟨e0, fr⟩) (fun b v H1 ρ1 s1 _ F1 R1 e1 vr => sk_assign ha R1 e1 ho vr) (fun _ => monoK_store) fun Q E h => wpAny_Assign_Name h hs)
theorem sim_assign_comp (hh : A.handled = none) {i : Nat} {elt it : ME} {cond : MEo} {e x : Expr} {t y : Str} {ifs : List Expr} {tp py cp pos : Pos} (ha : Apart ns) (ho : isOwn sc ns i y = true) (hs : swapsWith (.ListComp e [⟨.Name t tp, x, ifs, 0⟩] csc cp) (some (.Name y py)) pos.line env = pure true) (hi : notSet x = true) (hc : compOk sc csc t = true)
    (pt : CParts cx A Φ l csc (inner csc ns ++ [some t]) cond elt ifs e) (hx : ∀ Γ : Env', Γ.length = ns.length → EOk cx A ((Amb.env cx env sc ns Γ).and (Amb.frames cx l)) Φ env Γ it x) :
    SimS cx A l env sc ns (exec (.Assign [.Name y py] (.ListComp e [⟨.Name t tp, x, ifs, 0⟩] csc cp) pos) env) (execS cx.T Φ (.assign i (.comp elt it cond))) := by
  obtain ⟨c1, c2, c3⟩ := compOk_parts hc
  intro Γ H ρ s R e0 fr
  rw [ex_assign, comp_eval]
  have assoc : ∀ (m : M Val) (f : Val → M Val) (g : Val → Hp → ResS) (H : Hp), bndS (m.bnd f) Γ g H = bndS m Γ (fun v => bndS (f v) Γ g) H := by
    intro m f g H
    unfold bndS M.bnd
    cases m H <;> rfl
  rw [assoc]
  refine SimSK.to (SimSAt.bindK (K := fun xv Q E s => wpAny (model cx.prog cx.w) A (pyIter xv) (fun it s₂ => wpAny (model cx.prog cx.w) A (newList []) (fun acc s₃ => wpAny (model cx.prog cx.w) A (newFunctionEnv csc env.globals (cloOf env csc.names []) [] env.qual none .none (some env)) (fun cenv s₄ =>
      codeAny (model cx.prog cx.w) A (.compStart (.ListComp e [⟨.Name t tp, x, ifs, 0⟩] csc cp) 0 it acc { cenv with scope := relabel csc env }) (compPost (model cx.prog cx.w) A E (some (assign (.Name y py) env)) (fun _ s' => Q .next s') acc cenv.locals) s₄) E s₃) E s₂) E s) e0 ((hx Γ e0.len).val H ρ s R ⟨e0, fr⟩) ?_ ?_ ?_)
  · intro v xv H1 ρ1 s1 _ F1 R1 e1 vr
    rcases compRest_cases (T := cx.T) (Φ := Φ) (cond := cond) (elt := elt) (Γ := Γ) (v := v) (H := H1) with w | ⟨xs, src, ys, H₂, w1, w2, w3, w4⟩
    · unfold bndS; rw [w]; trivial
    · unfold bndS; rw [w4]
      refine comp_block hh hc ha e1.len pt R1 e1 ((Amb.frames cx l).st _ _ _ _ fr F1) vr w1 w2 w3 fun D C ρ' s' F' R' v' m' n' hC => ?_
      obtain ⟨m, hm⟩ := m'
      have e' := e1.full F'
      have lvB : Live cx.h₀ s1.heap := fun b o e => ⟨o, R1.base b o e⟩
      refine wpAny_assign_Name (store_var e'.len ha R' e' ho v' fun h2 tk2 F2 R2 e2 hq => ?_)
      refine hideG fun G kG => ?_
      obtain ⟨q, oq, hqd, hqs, gq⟩ := hq
      have live : ∀ {b : Addr}, (∃ o, s1.heap.get? b = some o) → b ≠ C := fun ⟨o, eo⟩ w => by rw [w, hC] at eo; exact no_some eo
      have locL : env.locals ≠ C := live (by obtain ⟨m, o, es, ep, e, _⟩ := e1.st.loc; exact ⟨o, e⟩)
      have celL : ∀ z c, env.cells.lookup z = some c → c ≠ C := fun z c hc => live (by obtain ⟨⟨v, o, e, _⟩, _⟩ := e1.st.cells z c hc; exact ⟨o, e⟩)
      have qC : C ≠ q := by
        rcases hqd with ⟨_, rfl⟩ | ⟨_, w⟩
        · exact locL.symm
        · exact (celL y q w).symm
      have hm2 : h2.Ns C m := Heap_Ns_keep hm fun o eo => ⟨o, by rw [hqs.2 C qC]; exact eo, rfl⟩
      obtain ⟨oC, gC, nf, nx⟩ := nsO_not hm2
      refine kG ?_
      refine ⟨m, hm2, fun h3 hs3 => ?_⟩
      have st : Step ρ' h2 ρ' h3 := Step.ext gC hs3.extBut nf nx
      have FF : FullS env ρ1 s1.heap ρ' h2 := F'.toS.trans F2
      refine ⟨rfl, ρ', ?_, R2.ext (tk := tk2) gC hs3.extBut nf nx n' (lvB.none hC), e2.but hs3.extBut locL.symm (fun z w => celL z C w rfl) st⟩
      refine ⟨FF.grow, fun b o eb n n1 n2 => ?_, fun b o eb => ?_⟩
      · obtain ⟨o', e', u⟩ := FF.keep b o eb n n1 n2
        exact ⟨o', hs3.extBut b o' (live ⟨o, eb⟩) e', u⟩
      · obtain ⟨o', e'⟩ := FF.live b o eb
        exact ⟨o', hs3.extBut b o' (live ⟨o, eb⟩) e'⟩
  · intro xv Q E Q' E' s h k1 k2
    exact wpAny_mono h (fun it s₂ h2 => wpAny_mono h2 (fun acc s₃ h3 => wpAny_mono h3 (fun cenv s₄ h4 => codeAny_mono h4 fun r s' hr => compPost_mono hr (fun _ s => k1 _ s) k2) k2) k2) k2
  · intro Q E h
    rw [exec_Assign_Name_used _ _ _ _ hs]
    refine wpAny_bind (wpAny_standAt (wpAny_bind ?_))
    show wpAny _ A (do let _ ← comprehension (.ListComp e [⟨.Name t tp, x, ifs, 0⟩] csc cp) csc env _ (newList []) false (eval x env) (some (assign (.Name y py) env))) _ _ s
    refine wpAny_bind (wpAny_mono (wpAny_comprehension_free (use := some (assign (.Name y py) env)) (Q := fun _ s' => Q .next s') (g := ⟨.Name t tp, x, ifs, 0⟩) (gs := []) rfl (fun xv => foldedSet_of hi env xv)
      (closureFor_eq fun p' hp' hf => e0.st.hasCell p'.1 (by rcases (c3 p' hp').2 hf with w | w; exact .inl w; exact .inr w)) c1 (fun p' hp' hl => by rw [(c3 p' hp').1, hl]) h) (fun _ s' hq => wpAny_pure (wpAny_pure hq)) fun _ _ e => e)
theorem sim_assign (G : Ground cx N A Φ l d) {i : Nat} {m : ME} {y : Str} {x : Expr} {py pos : Pos} (ha : Apart ns) (ho : isOwn sc ns i y = true) (hm : ck N sc ns m x = true) :
    SimS cx A l env sc ns (exec (.Assign [.Name y py] x pos) env) (execS cx.T Φ (.assign i m)) := by
  rcases swaps_name (env := env) (x := x) (y := y) (py := py) (ln := pos.line) with hs | hs
  · by_cases hc : ∃ a b c, m = .comp a b c
    · obtain ⟨elt, it, cond, rfl⟩ := hc
      obtain ⟨el, t, px, i', ifs, csc, cp, rfl, h1, h2, h3, h4, h5⟩ := inv_comp hm
      exact sim_assign_comp G.room.hh ha ho hs h2 h3 ⟨fun cenv Γ' hΓ' => econd G cond ifs cenv csc _ Γ' h5 (inner_inj ha (compOk_parts h3).2.1) hΓ', fun cenv Γ' hΓ' => (eok G elt el cenv csc _ Γ' h4 (inner_inj ha (compOk_parts h3).2.1) hΓ').val⟩
        fun Γ hΓ => eok G it i' env sc ns Γ h1 ha hΓ
    · have := swaps_not (env := env) (t := some (.Name y py)) (ln := pos.line) hm fun a b c w => hc ⟨a, b, c, w⟩
      exact sim_assign_plain ha ho this fun Γ hΓ => eok G m x env sc ns Γ hm ha hΓ
  · exact sim_assign_plain ha ho hs fun Γ hΓ => eok G m x env sc ns Γ hm ha hΓ
end
end Mine
-- part MStore
namespace Mine
open PySem
section
variable {cx : Cx} {N : Names} {A : Around} {Φ : Funs} {l : List Env} {d : Nat} {env : Env} {sc : Scope} {ns : List (Option Str)} {Γ : Env'} {H : Hp} {ρ : Rho} {s : Shared}
theorem setattr_ok {v m : Val} {n : Nat} {u : Unit} {H' : Hp} (h : setattrV v n m H = .ok u H') : ∃ i c fs, v = .loc i ∧ H[i]? = some (.inst c fs) ∧ H' = H.set i (.inst c (fput fs n m)) := by
  unfold setattrV at h
  split at h
  · split at h
    · cases h; exact ⟨_, _, _, rfl, by assumption, rfl⟩
    · exact no_bad h
  · exact no_bad h
theorem setattr_noexc {v m : Val} {n c : Nat} {H' : Hp} (h : setattrV v n m H = .exc c H') : False := by
  unfold setattrV at h
  split at h
  · split at h <;> cases h
  · cases h
theorem swaps_attr {x p : Expr} {y : Str} {q : Pos} {ln : Nat} : swapsWith x (some (.Attribute p y q)) ln env = pure false := by cases x <;> rfl
theorem sim_setattr (G : Ground cx N A Φ l d) {o e : ME} {n : Nat} {p x : Expr} {y : Str} {q pos : Pos} (ha : Apart ns) (hx : ck N sc ns e x = true) (hp : ck N sc ns o p = true) (hn : hasNo N.attrs y n = true) :
    SimS cx A l env sc ns (exec (.Assign [.Attribute p y q] x pos) env) (execS cx.T Φ (.setattr o n e)) := by
  intro Γ H ρ s R e0 fr
  refine SimSK.to (SimSAt.bindK (K := fun v Q E s => wpAny (model cx.prog cx.w) A (eval p env) (fun ov s₂ => wpAny (model cx.prog cx.w) A (setAttr ov y v) (fun _ => Q .next) E s₂) E s) e0 ((eok G e x env sc ns Γ hx ha e0.len).val H ρ s R ⟨e0, fr⟩) ?_ ?_ fun Q E h => plainObj_wpAny_Assign_Attribute h swaps_attr)
  · intro b v H1 ρ1 s1 _ F1 R1 e1 vr
    refine SimSAt.bindK (K := fun ov Q E s => wpAny (model cx.prog cx.w) A (setAttr ov y v) (fun _ => Q .next) E s) e1 ((eok G o p env sc ns Γ hp ha e1.len).val H1 ρ1 s1 R1 ⟨e1, fr.full F1⟩) ?_ ?_ (fun Q E h => h)
    · intro b2 ov H2 ρ2 s2 _ F2 R2 e2 vo
      have vo' : VR cx ρ2 s2.heap b2 ov := vo
      unfold bndS
      cases hr : setattrV b2 n b H2 with
      | bad => trivial
      | exc c H3 => exact (setattr_noexc hr).elim
      | ok u H3 =>
        obtain ⟨i, c, fs, rfl, hi, rfl⟩ := setattr_ok hr
        obtain ⟨p1, hp1, hr0⟩ := vo'.loc_inv; refine Eq.symm hr0 ▸ ?_
        exact wp_setattr G.base.cls R2 hi hp1 (G.base.cls.attr y n (hasNo_eq hn)) (VR.step F2.step vr) fun s' F R' => ⟨rfl, ρ2, F.toS, R', e2.full F⟩
    · exact fun _ Q E Q' E' s h k1 k2 => wpAny_mono h (fun _ _ => k1 _ _) k2
  · exact fun _ Q E Q' E' s h k1 k2 => wpAny_mono h (fun _ _ h' => wpAny_mono h' (fun _ _ => k1 _ _) k2) k2
end
end Mine
-- part MItem
namespace Mine
open PySem
section
variable {cx : Cx} {N : Names} {A : Around} {Φ : Funs} {l : List Env} {d : Nat} {env : Env} {sc : Scope} {ns : List (Option Str)} {Γ : Env'} {H : Hp} {ρ : Rho} {s : Shared}
set_option maxRecDepth 100000 in
theorem wp_setItem {a : Addr} {vs : List Value} {n : Nat} {k : Int} {t : Tok} {v : Value} {Q : Unit → Shared → Prop} {E : Value → Shared → Prop} (g : s.heap.get? a = some (listO vs n)) (h0 : 0 ≤ k) (hk : k < vs.length) (hf : k < 2 ^ 63)
    (hQ : Q () { s with heap := s.heap.update a (Obj.mapSeq (·.setIfInBounds k.toNat v)) }) : wpAny (model cx.prog cx.w) A (setItem (.ref a) (.int k t) v) Q E s := by
  have hl : s.heap.IsList a vs.toArray := ⟨_, g, rfl, n, rfl⟩
  unfold setItem
  try with_reducible refine wpAny_holding ?_
  first | refine wpAny_bind (wpAny_pure ?_) | skip
  refine wpAny_bind (wpAny_sequenceKey hl.typeIs (by decide) ?_)
  refine wpAny_bind (wpAny_callSpecial?_slot (name := Str.ofString "__setitem__") hl.typeIs slot_list_setitem (wpAny_call_entry slot_list_setitem hl.typeIs entry_list_setitem ?_ (args_list_setitem _ _ _)))
  show wpAny _ _ (Builtin.List.listSubscript? (.int k t) >>= _) _ _ s
  refine wpAny_bind (wpAny_listSubscript_int (fitsIndex_of h0 hf) ?_)
  clear hf
  obtain ⟨j, rfl⟩ := Int.eq_ofNat_of_zero_le h0
  have hj : j < vs.toArray.size := by simp only [List.size_toArray]; omega
  have hx' : vs.toArray[j]? = some vs.toArray[j] := Array.getElem?_eq_getElem hj
  refine wpAny_bind (wpAny_bind (wpAny_seqItemAt g rfl (wpAny_pure ?_)))
  rw [hx']
  refine wpAny_bind (wpAny_setSeqItemAt g rfl ?_)
  first
    | exact wpAny_bind (wpAny_pure (wpAny_pure ⟨.none, rfl, wpAny_pure hQ⟩))
    | exact wpAny_pure ⟨.none, rfl, wpAny_pure hQ⟩
theorem VRs.setArr {xs : List Val} {vs : List Value} {m : Val} {v : Value} {h : Heap} (r : VRs cx ρ h xs vs) (k : Nat) (a : VR cx ρ h m v) : VRs cx ρ h (xs.set k m) (vs.toArray.setIfInBounds k v).toList := by
  have : (vs.toArray.setIfInBounds k v).toList = vs.set k v := by simp
  rw [this]; exact r.set k a
set_option tactic.hygienic true in
theorem setitem_ok {o i m : Val} {u : Unit} {H' : Hp} (h : setitemV o i m H = .ok u H') : ∃ l, o = .loc l ∧ ((∃ xs k, H[l]? = some (.list xs) ∧ i = .int k ∧ 0 ≤ k ∧ k < xs.length ∧ H' = H.set l (.list (xs.set k.toNat m))) ∨
    ∃ es k, H[l]? = some (.dict es) ∧ keyOf i = some k ∧ es.length < lid ∧ H' = H.set l (.dict (dput es k m))) := by
  unfold setitemV at h
  split at h
  · rename_i l
    split at h
    · rename_i xs hl
      split at h
      · rename_i k
        by_cases q : 0 ≤ k ∧ k < xs.length
        · rw [if_pos q] at h; cases h; exact ⟨l, rfl, .inl ⟨xs, k, hl, rfl, q.1, q.2, rfl⟩⟩
        · rw [if_neg q] at h; exact no_bad h
      · exact no_bad h
    · rename_i es hl
      split at h
      · rename_i k hk
        by_cases q : es.length < lid
        · rw [if_pos q] at h; cases h; exact ⟨l, rfl, .inr ⟨es, k, hl, hk, q, rfl⟩⟩
        · rw [if_neg q] at h; exact no_bad h
      · exact no_bad h
    · exact no_bad h
  · exact no_bad h
theorem setitem_noexc {o i m : Val} {c : Nat} {H' : Hp} (h : setitemV o i m H = .exc c H') : False := by
  unfold setitemV at h
  split at h
  · split at h
    · split at h
      · split at h <;> cases h
      · cases h
    · split at h
      · split at h <;> cases h
      · cases h
    · cases h
  · cases h
theorem wp_setDict (hu : A.units + 100 < cLine) (R : Rel cx H ρ s) {l : Nat} {p : Addr × Addr} {es : List (Key × Val)} {i m : Val} {k : Key} {iv v : Value} {Q : Unit → Shared → Prop} {E : Value → Shared → Prop} (hp : ρ[l]? = some p) (hl : H[l]? = some (.dict es)) (hk : keyOf i = some k) (q : es.length < lid)
    (xi : VR cx ρ s.heap i iv) (xm : VR cx ρ s.heap m v) (hQ : ∀ h' tk, Full ρ s.heap ρ h' → Rel cx (H.set l (.dict (dput es k m))) ρ { s with heap := h', toks := tk } → Q () { s with heap := h', toks := tk }) : wpAny (model cx.prog cx.w) A (setItem (.ref p.1) iv v) Q E s := by
  refine hideG fun G kG => ?_
  obtain ⟨xs, hpp, D, rr, z⟩ := R.dictAt hl hp
  obtain ⟨bb, rfl, hb, no⟩ := key_is xi hk
  refine kG ?_
  refine wpAny_setItem_heap (knd := cellKind cx) (tupleKind_room_in1 (by omega)) hb D (fun h' hm hs => ?_) (by rw [rr.length]; exact z)
  refine hideG fun G kG => ?_
  obtain ⟨_, _, _, _, _, _, _, ks, nd⟩ := D
  rw [sizeLine_lid] at q
  obtain ⟨F, R'⟩ := dict_set (tk := s.toks + (cellKind cx).draws [k.1, k.2]) R hp hpp hm hs (stored_keys ks hb) (rr.put nd xm no) (Nat.le_trans (dput_length es k m) q)
  refine kG ?_
  exact hQ h' _ F R'
theorem swaps_item {x p i : Expr} {q : Pos} {ln : Nat} : swapsWith x (some (.Subscript p i q)) ln env = pure false := by cases x <;> rfl
theorem sim_setitem (G : Ground cx N A Φ l d) {o i e : ME} {p j x : Expr} {q pos : Pos} (ha : Apart ns) (hx : ck N sc ns e x = true) (hp : ck N sc ns o p = true) (hi : ck N sc ns i j = true) :
    SimS cx A l env sc ns (exec (.Assign [.Subscript p j q] x pos) env) (execS cx.T Φ (.setitem o i e)) := by
  intro Γ H ρ s R e0 fr
  refine SimSK.to (SimSAt.bindK (K := fun v Q E s => wpAny (model cx.prog cx.w) A (eval p env) (fun ov s₂ => wpAny (model cx.prog cx.w) A (eval j env) (fun iv s₃ => wpAny (model cx.prog cx.w) A (setItem ov iv v) (fun _ => Q .next) E s₃) E s₂) E s) e0 ((eok G e x env sc ns Γ hx ha e0.len).val H ρ s R ⟨e0, fr⟩) ?_ ?_ fun Q E h => wpAny_Assign_Subscript h swaps_item)
  · intro b v H1 ρ1 s1 _ F1 R1 e1 vr
    refine SimSAt.bindK (K := fun ov Q E s => wpAny (model cx.prog cx.w) A (eval j env) (fun iv s₃ => wpAny (model cx.prog cx.w) A (setItem ov iv v) (fun _ => Q .next) E s₃) E s) e1 ((eok G o p env sc ns Γ hp ha e1.len).val H1 ρ1 s1 R1 ⟨e1, fr.full F1⟩) ?_ ?_ (fun Q E h => h)
    · intro b2 ov H2 ρ2 s2 _ F2 R2 e2 vo
      refine SimSAt.bindK (K := fun iv Q E s => wpAny (model cx.prog cx.w) A (setItem ov iv v) (fun _ => Q .next) E s) e2 ((eok G i j env sc ns Γ hi ha e2.len).val H2 ρ2 s2 R2 ⟨e2, (fr.full F1).full F2⟩) ?_ ?_ (fun Q E h => h)
      · intro b3 iv H3 ρ3 s3 _ F3 R3 e3 vi
        have vo' : VR cx ρ3 s3.heap b2 ov := VR.step F3.step vo
        have vi' : VR cx ρ3 s3.heap b3 iv := vi
        have vr' : VR cx ρ3 s3.heap b v := VR.step F3.step (VR.step F2.step vr)
        unfold bndS
        cases hr : setitemV b2 b3 b H3 with
        | bad => trivial
        | exc c H4 => exact (setitem_noexc hr).elim
        | ok u H4 =>
          obtain ⟨a, rfl, hs⟩ := setitem_ok hr
          obtain ⟨p1, hp1, hr1⟩ := vo'.loc_inv; refine Eq.symm hr1 ▸ ?_
          rcases hs with ⟨xs, k, hl, rfl, k0, k1, rfl⟩ | ⟨es, k, hl, hk, q, rfl⟩
          · refine hideG fun G kG => ?_
            obtain ⟨t, rfl⟩ := vi'.int_inv
            obtain ⟨vs, n, hpp, g, rr, z⟩ := R3.listAt hl hp1
            refine kG ?_
            have z' := z
            rw [sizeLine_eq] at z'
            refine wp_setItem g k0 (by rw [← rr.length]; exact k1) (by omega) ?_
            obtain ⟨ρ', F, R', _⟩ := simAt_seq (b := .none) (v := .none) (ys := xs.set k.toNat b) R3 hp1 hpp g (fun w => w.setIfInBounds k.toNat v) (rr.setArr k.toNat vr') (by rw [List.length_set]; exact z) fun _ _ => .none
            exact ⟨rfl, ρ', F.toS, R', e3.full F⟩
          · exact wp_setDict G.u R3 hp1 hl hk q vi' vr' fun h' tk F R' => ⟨rfl, ρ3, F.toS, R', e3.full F⟩
      · exact fun _ Q E Q' E' s h k1 k2 => wpAny_mono h (fun _ _ => k1 _ _) k2
    · exact fun _ Q E Q' E' s h k1 k2 => wpAny_mono h (fun _ _ h' => wpAny_mono h' (fun _ _ => k1 _ _) k2) k2
  · exact fun _ Q E Q' E' s h k1 k2 => wpAny_mono h (fun _ _ h' => wpAny_mono h' (fun _ _ h2 => wpAny_mono h2 (fun _ _ => k1 _ _) k2) k2) k2
end
end Mine
-- part MExc
namespace Mine
open PySem
section
variable {cx : Cx} {N : Names} {A : Around} {Φ : Funs} {l : List Env} {d : Nat} {env : Env} {sc : Scope} {ns : List (Option Str)} {Γ : Env'} {H : Hp} {ρ ρ' : Rho} {s : Shared}
theorem sim_raise (G : Ground cx N A Φ l d) (ha : Apart ns) {c : Nat} {x msg : Str} {np cpos pos : Pos} {k : Nat} {mp : Pos} (hg : isGlob sc x = true) (hn : hasNo N.clss x c = true) (hck : ckEs N sc ns (.cons (.str msg) .nil) [.Constant (.str msg) k mp] = true) :
    SimS cx A l env sc ns (exec (.Raise (some (.Call (.Name x np) [.Constant (.str msg) k mp] [] cpos)) none pos) env) (execS cx.T Φ (.raise c msg)) := by
  intro Γ H ρ s R e0 fr
  rw [ex_raise]
  by_cases hi : ¬ cx.T.isExc c = true
  · rw [if_neg hi]; trivial
  have hi : cx.T.isExc c = true := Classical.not_not.mp hi
  rw [if_pos hi]
  obtain ⟨C, hC, ok⟩ := G.base.exc c hi
  obtain ⟨mg, mb, ng, nb, _, _, q, _⟩ := G.base.ns
  obtain ⟨Cv, hC', hx⟩ := q x c (hasNo_eq hn)
  rw [hC] at hC'; cases hC'
  obtain ⟨nm, qn, Nn, bs, bm, hdct, sn, sub, ab, col, dd, k0, k1, k2, k3, k5, mN, hCo, hNs, hin, tl, _⟩ := ok.is
  have y := eoks G (.cons (.str msg) .nil) [.Constant (.str msg) k mp] env sc ns Γ hck ha e0.len H ρ s R ⟨e0, fr⟩
  have ev : evalEs cx.T Φ (.cons (.str msg) .nil) Γ H = .ok [.str msg] H := rfl
  rw [ev] at y
  have pl := plainArgs_trees (env := env) cpos (ckEs_plain hck)
  refine wpAny_Raise_call_subT (C := C) (nm := nm) (q := qn) (N := Nn) (bs := bs) (hdct := hdct) (sn := sn) (sub := sub) (ab := ab) (col := col) (dd := dd) (k0 := k0) (k1 := k1) (k2 := k2) (k3 := k3) (k5 := k5) F.excBase_ValueError (mN := mN) (bm := bm) (tl.hasType (by decide)) G.room.hh (by rw [pl]; exact any_false _) hin ?_
  refine wp_glob R e0.st hg ng nb hx ⟨rfl, ?_⟩
  rw [pl]
  refine Calls.evalArgs_plain (wpAny_mono y (fun vs s' ⟨ρ', F, R', vrs⟩ => ?_) fun _ _ q => q.elim)
  refine ⟨rfl, by have := vrs.length; skip; rw [← this]; show 1 ≤ 16777216; decide, R'.base _ _ hCo, hNs.keeps R'.base, tl.keeps R'.base, fun h' e m => ?_⟩
  have F' : Full ρ s.heap ρ' h' := F.trans (Full.more m.keeps)
  refine hideG fun G kG => ?_
  obtain ⟨t, ht, _, _⟩ := m.there
  refine kG ?_
  exact ⟨ρ', F'.toS, R'.more (tk := s'.toks) m.keeps, e0.full F', e, C, _, rfl, hC, F.live.none m.new, ht, rfl, R'.fresh_not m.new, .inl rfl⟩
end
end Mine
-- part MCalm
namespace Mine
open PySem
structure GroundC (cx : Cx) (N : Names) (A : Around) (Φ : Funs) (l : List Env) (K : Nat → Bool) : Prop where
  base : Base cx N
  u : A.units + 100 < cLine
  funs : ∀ (f : Nat) (a : Addr) (args : List Val) (vals : List Value), K f = true → cx.fns[f]? = some a → Sim cx A ((Amb.vrs cx args vals).and (Amb.frames cx l)) (call (.ref a) vals) (Φ f args) (Amb.vr cx)
  defs : ∀ (f : Nat) (a : Addr), cx.fns[f]? = some a → ∃ g, cx.T.funs[f]? = some g
section
variable {cx : Cx} {N : Names} {A : Around} {Φ : Funs} {l : List Env} {d : Nat} {K : Nat → Bool} {env : Env} {sc : Scope} {ns : List (Option Str)} {Γ : Env'} {H : Hp} {ρ ρ' : Rho} {s : Shared}
mutual
theorem eokC (G : GroundC cx N A Φ l K) : ∀ (m : ME) (e : Expr) (env : Env) (sc : Scope) (ns : List (Option Str)) (Γ : Env'), calmE K m = true → ck N sc ns m e = true → Apart ns → Γ.length = ns.length → EOk cx A ((Amb.env cx env sc ns Γ).and (Amb.frames cx l)) Φ env Γ m e
  | .none, e, env, sc, ns, Γ, c, h, _, _ => by
    obtain ⟨k, pos, hr0⟩ := inv_none h; refine Eq.symm hr0 ▸ ?_
    refine EOk.of (fun H ρ s R p => ?_) rfl
    exact simAt_pure R fun Q E k => wpAny_Constant_none (k _ s.toks .none)
  | .bool b, e, env, sc, ns, Γ, c, h, _, _ => by
    obtain ⟨k, pos, rfl⟩ := inv_bool h
    refine EOk.of (fun H ρ s R p => ?_) rfl
    exact simAt_pure R fun Q E k => wpAny_Constant_bool (k _ s.toks (.bool b))
  | .int i, e, env, sc, ns, Γ, c, h, _, _ => by
    obtain ⟨k, pos, rfl⟩ := inv_int h
    refine EOk.of (fun H ρ s R p => ?_) rfl
    exact simAt_pure R fun Q E k => wpAny_Constant_int (k _ _ (.int _ _))
  | .str v, e, env, sc, ns, Γ, c, h, _, _ => by
    obtain ⟨k, pos, rfl, z⟩ := inv_str h
    refine EOk.of (fun H ρ s R p => ?_) rfl
    exact simAt_pure R fun Q E k => wpAny_Constant_str (k _ _ (.str _ _ (by rw [sizeLine_eq]; omega)))
  | .var i, e, env, sc, ns, Γ, c, h, _, _ => by
    obtain ⟨x, pos, rfl, h1⟩ := inv_var h
    exact EOk.of (sim_var h1 Φ).and1 rfl
  | .bin op a b, e, env, sc, ns, Γ, c, h, ha, hΓ => by
    obtain ⟨x, o, y, pos, hr5, h1, h2, h3⟩ := inv_bin h; refine Eq.symm hr5 ▸ ?_
    exact eok_bin h1 (eokC G a x env sc ns Γ (an1 c) h2 ha hΓ) (eokC G b y env sc ns Γ (an2 c) h3 ha hΓ)
  | .cmp op a b, e, env, sc, ns, Γ, c, h, ha, hΓ => by
    obtain ⟨x, y, pos, hr6, h1, h2, h3⟩ := inv_cmp h; refine Eq.symm hr6 ▸ ?_
    exact eok_cmp G.u h3 (eokC G a x env sc ns Γ (an1 c) h1 ha hΓ) (eokC G b y env sc ns Γ (an2 c) h2 ha hΓ)
  | .call f es, e, env, sc, ns, Γ, c, h, ha, hΓ => by
    obtain ⟨x, np, xs, pos, hr7, h1, h2, h3, h4⟩ := inv_call h; refine Eq.symm hr7 ▸ ?_
    refine EOk.of ?_ rfl
    obtain ⟨mg, mb, ng, nb, q, _⟩ := G.base.ns
    obtain ⟨a, ha', _⟩ := q x f (hasNo_eq h2)
    exact sim_callU G.base (fun a args vals h => G.funs f a args vals (an1 c) h) h1 h2 (G.defs f a ha') h3 (eoksC G es xs env sc ns Γ (an2 c) h3 ha hΓ)
  | .bm a m es, e, env, sc, ns, Γ, c, h, ha, hΓ => by
    obtain ⟨o, y, apos, xs, pos, rfl, h1, rfl, h3, h4, h5, h6⟩ := inv_bm h
    refine EOk.of ?_ rfl
    exact sim_bm h5 (ckEs_plain h4) (by rw [← h3]; cases m <;> decide) (fun e => ckEs_nil (e ▸ h4)) h6 (eokC G a o env sc ns Γ (an2 (an1 c)) h1 ha hΓ).val (eoksC G es xs env sc ns Γ (an2 c) h4 ha hΓ)
      (fun b v ms vs hl => bm_one G.u m b v ms vs (bm_len h3 hl)) (fun _ _ _ e => evalEs_length h4 e)
  | .isinst a t, e, env, sc, ns, Γ, c, h, ha, hΓ => by
    obtain ⟨f, np, x, y, yp, pos, hr8, h1, h2, h3, h4, h5⟩ := inv_isinst h; refine Eq.symm hr8 ▸ ?_
    have z := eokC G a x env sc ns Γ c h4 ha hΓ
    cases t with
    | cls c => exact eok_isiC G.base h1 h2 h3 h5 (ck_notStar h4) z
    | int => exact eok_isi G.base (fun c => by intro q; cases q) h1 h2 h3 (of_decide_eq_true h5) (ck_notStar h4) z
    | bool => exact eok_isi G.base (fun c => by intro q; cases q) h1 h2 h3 (of_decide_eq_true h5) (ck_notStar h4) z
    | str => exact eok_isi G.base (fun c => by intro q; cases q) h1 h2 h3 (of_decide_eq_true h5) (ck_notStar h4) z
    | tuple => exact eok_isi G.base (fun c => by intro q; cases q) h1 h2 h3 (of_decide_eq_true h5) (ck_notStar h4) z
    | list => exact eok_isi G.base (fun c => by intro q; cases q) h1 h2 h3 (of_decide_eq_true h5) (ck_notStar h4) z
  | .glob _, _, _, _, _, _, c, _, _, _ => by exact no_true c
  | .neg _, _, _, _, _, _, c, _, _, _ => by exact no_true c
  | .not _, _, _, _, _, _, c, _, _, _ => by exact no_true c
  | .and _ _, _, _, _, _, _, c, _, _, _ => by exact no_true c
  | .or _ _, _, _, _, _, _, c, _, _, _ => by exact no_true c
  | .cmp2 _ _ _ _ _, _, _, _, _, _, c, _, _, _ => by exact no_true c
  | .sub _ _, _, _, _, _, _, c, _, _, _ => by exact no_true c
  | .slice _ _ _, _, _, _, _, _, c, _, _, _ => by exact no_true c
  | .tup _, _, _, _, _, _, c, _, _, _ => by exact no_true c
  | .list _, _, _, _, _, _, c, _, _, _ => by exact no_true c
  | .dict, _, _, _, _, _, c, _, _, _ => by exact no_true c
  | .attr _ _, _, _, _, _, _, c, _, _, _ => by exact no_true c
  | .new _ _, _, _, _, _, _, c, _, _, _ => by exact no_true c
  | .umeth _ _ _, _, _, _, _, _, c, _, _, _ => by exact no_true c
  | .bf _ _, _, _, _, _, _, c, _, _, _ => by exact no_true c
  | .comp _ _ _, _, _, _, _, _, c, _, _, _ => by exact no_true c
theorem eoksC (G : GroundC cx N A Φ l K) : ∀ (ms : MEs) (xs : List Expr) (env : Env) (sc : Scope) (ns : List (Option Str)) (Γ : Env'), calmEs K ms = true → ckEs N sc ns ms xs = true → Apart ns → Γ.length = ns.length →
    Sim cx A ((Amb.env cx env sc ns Γ).and (Amb.frames cx l)) (spliced (xs.map fun e => (false, eval e env))) (evalEs cx.T Φ ms Γ) (Amb.vrs cx)
  | .nil, [], env, sc, ns, Γ, c, h, ha, hΓ => sim_nil
  | .nil, _ :: _, env, sc, ns, Γ, c, h, ha, hΓ => by cases (show false = true from h)
  | .cons _ _, [], env, sc, ns, Γ, c, h, ha, hΓ => by cases (show false = true from h)
  | .cons m ms, x :: xs, env, sc, ns, Γ, c, h, ha, hΓ => sim_cons (eokC G m x env sc ns Γ (an1 c) (an1 h) ha hΓ).val (eoksC G ms xs env sc ns Γ (an2 c) (an2 h) ha hΓ)
end
theorem sim_ret_of {m : MEo} {x : Option Expr} {pos : Pos} (hm : ckO N sc ns m x = true) (he : ∀ e x', m = .some e → x = some x' → ck N sc ns e x' = true → ∀ Γ : Env', Γ.length = ns.length → EOk cx A ((Amb.env cx env sc ns Γ).and (Amb.frames cx l)) Φ env Γ e x') : SimS cx A l env sc ns (exec (.Return x pos) env) (execS cx.T Φ (.ret m)) := by
  intro Γ H ρ s R e0 fr
  match m, x, hm, he with
  | .none, none, _, _ => exact wpAny_Return_none ⟨_, ρ, rfl, FullS.refl _ _ _, R, .none, e0.st⟩
  | .some e, some x, hm, he =>
    exact SimSK.to (SimSAt.bindK (K := fun v Q _ s => Q (.ret v) s) e0 ((he e x rfl rfl hm Γ e0.len).val H ρ s R ⟨e0, fr⟩) (fun b v H1 ρ1 s1 _ F1 R1 e1 vr => ⟨v, ρ1, rfl, FullS.refl _ _ _, R1, vr, e1.st⟩) (fun _ Q E Q' E' s h k1 _ => k1 _ _ h) fun Q E h => wpAny_Return_some h)
  | .none, some _, h, _ => cases (show false = true from h)
  | .some _, none, h, _ => cases (show false = true from h)
theorem sim_ite_of {c : ME} {t f : MSs} {x : Expr} {ts fs : List Stmt} {pos : Pos} (hc : ∀ Γ : Env', Γ.length = ns.length → EOk cx A ((Amb.env cx env sc ns Γ).and (Amb.frames cx l)) Φ env Γ c x) (ht : SimS cx A l env sc ns (execs ts env) (execSs cx.T Φ t)) (hf : SimS cx A l env sc ns (execs fs env) (execSs cx.T Φ f)) :
    SimS cx A l env sc ns (exec (.If x ts fs pos) env) (execS cx.T Φ (.ite c t f)) := by
  intro Γ H ρ s R e0 fr
  refine SimSK.to (SimSAt.bindK (K := fun b Q E s => if b = true then wpAny (model cx.prog cx.w) A (execs ts env) Q E s else wpAny (model cx.prog cx.w) A (execs fs env) Q E s) e0 ((hc Γ e0.len).tru H ρ s R ⟨e0, fr⟩) ?_ ?_ fun Q E h => wpAny_If h)
  · intro b b' H1 ρ1 s1 _ F1 R1 e1 hb
    have hb' : b' = b := hb
    refine hb' ▸ ?_
    cases b' with
    | true => exact (SimSK.of (ht Γ H1 ρ1 s1 R1 e1 (fr.full F1))).mono fun Q E h => h
    | false => exact (SimSK.of (hf Γ H1 ρ1 s1 R1 e1 (fr.full F1))).mono fun Q E h => by simpa using h
  · intro b Q E Q' E' s h k1 k2
    cases b
    · simp only [Bool.false_eq_true, if_false] at h ⊢; exact wpAny_mono h k1 k2
    · simp only [if_true] at h ⊢; exact wpAny_mono h k1 k2
mutual
theorem sokC (G : GroundC cx N A Φ l K) (ha : Apart ns) : ∀ (m : MS) (st : Stmt), calmS K m = true → ckS N sc ns m st = true → SimS cx A l env sc ns (exec st env) (execS cx.T Φ m)
  | .assign i e, st, c, h => by
    obtain ⟨t, h⟩ := seen_of h
    rw [t.2]
    refine sim_assign_plain ha (an1 h) (swaps_not (an2 h) fun a b d w => ?_) fun Γ hΓ => eokC G e _ env sc ns Γ c (an2 h) ha hΓ
    rw [w] at c; cases (show false = true from c)
  | .ret e, st, c, h => by
    obtain ⟨t, h⟩ := seen_of h
    rw [t.2]
    exact sim_ret_of h fun e' x' he _ hk Γ hΓ => eokC G e' x' env sc ns Γ (by rw [he] at c; exact c) hk ha hΓ
  | .ite c t f, st, q, h => by
    obtain ⟨p, h⟩ := seen_of h
    rw [p.2]
    exact sim_ite_of (fun Γ hΓ => eokC G c _ env sc ns Γ (an1 (an1 q)) (an1 (an1 h)) ha hΓ) (soksC G ha t p.1.2.1 (an2 (an1 q)) (an2 (an1 h))) (soksC G ha f p.1.2.2.1 (an2 q) (an2 h))
  | .expr _, _, c, _ => by exact no_true c
  | .setattr _ _ _, _, c, _ => by exact no_true c
  | .setitem _ _ _, _, c, _ => by exact no_true c
  | .each _ _ _, _, c, _ => by exact no_true c
  | .eachEnum _ _ _ _, _, c, _ => by exact no_true c
  | .raise _ _, _, c, _ => by exact no_true c
  | .tryx _ _, _, c, _ => by exact no_true c
theorem soksC (G : GroundC cx N A Φ l K) (ha : Apart ns) : ∀ (m : MSs) (sts : List Stmt), calmSs K m = true → ckSs N sc ns m sts = true → SimS cx A l env sc ns (execs sts env) (execSs cx.T Φ m)
  | .nil, [], _, _ => by
    intro Γ H ρ s R e0 fr
    exact wpAny_execs_nil ⟨rfl, ρ, FullS.refl _ _ _, R, e0⟩
  | .nil, _ :: _, _, h => by cases (show false = true from h)
  | .cons _ _, [], _, h => by cases (show false = true from h)
  | .cons m ms, st :: sts, c, h => by
    intro Γ H ρ s R e0 fr
    exact sim_then e0 fr (sokC G ha m st (an1 c) (an1 h) Γ H ρ s R e0 fr) (soksC G ha ms sts (an2 c) (an2 h))
end
theorem calm_call (B : Base cx N) (defs : ∀ (f : Nat) (a : Addr), cx.fns[f]? = some a → ∃ g, cx.T.funs[f]? = some g) {k : Nat} {a : Addr} {args : List Val} {vals : List Value} (hc : calmFn cx.T k = true) (hk : cx.fns[k]? = some a) (room : RoomQ A (d + 1)) (hfr : A.frames = some l) :
    Sim cx A ((Amb.vrs cx args vals).and (Amb.frames cx l)) (call (.ref a) vals) (callF cx.T (d + 1) k args) (Amb.vr cx) := by
  refine call_step B hk room hfr fun f stmts env sc ns hf h1 h2 h3 h4 => ?_
  have c : calmSs (fun _ => false) f.body = true := by unfold calmFn at hc; rw [hf] at hc; exact hc
  exact soksC (K := fun _ => false) ⟨B, by have := room.units; show A.units + 3 + 100 < _; omega, fun f a args vals h => (by exact nomatch h), defs⟩ h2 f.body stmts c h1
end
end Mine
-- part MTry
namespace Mine
open PySem
noncomputable def FunsC (cx : Cx) (Φ : Funs) (d : Nat) : Prop :=
  ∀ (k : Nat) (a : Addr) (args : List Val) (vals : List Value) (A : Around) (l : List Env), calmFn cx.T k = true → cx.fns[k]? = some a → RoomQ A d → A.frames = some l →
    Sim cx A ((Amb.vrs cx args vals).and (Amb.frames cx l)) (call (.ref a) vals) (Φ k args) (Amb.vr cx)
theorem funsC_ok {cx : Cx} {N : Names} (B : Base cx N) (defs : ∀ (f : Nat) (a : Addr), cx.fns[f]? = some a → ∃ g, cx.T.funs[f]? = some g) : ∀ d, FunsC cx (callF cx.T d) d
  | 0 => fun k a args vals A l _ _ _ _ H ρ s R p => trivial
  | d + 1 => fun k a args vals A l hc hk room hfr => calm_call B defs hc hk room hfr
section
variable {M : Model} {A : Around} {E : Value → Shared → Prop} {h : Heap} {g : Array GenState} {d : Drawn} {t : Nat} {os : OsState}
variable {nm q : Str} {C N : Addr} {bs bm : List Value} {hdct : Bool} {sn : List Str} {sub : List Value} {ab : Bool} {col : Option Bool} {dd : Option Addr} {k0 k1 k2 k3 k5 : Option Value} {newId : String}
variable {nm' q' : Str} {C' N' : Addr} {bs' bm' : List Value} {hdct' : Bool} {sn' : List Str} {sub' : List Value} {ab' : Bool} {col' : Option Bool} {dd' : Option Addr} {k0' k1' k2' k3' k5' : Option Value} {newId' : String}
theorem wp_matches {e : Addr} {oe : Obj} {Q : Bool → Shared → Prop} (hC : h.get? C = some (excClassObj nm q C N bs bm hdct sn sub ab col dd k0 k1 k2 k3 k5 newId)) (hD : h.get? C' = some (excClassObj nm' q' C' N' bs' bm' hdct' sn' sub' ab' col' dd' k0' k1' k2' k3' k5' newId')) (he : h.get? e = some oe) (hcls : oe.cls = .ref C) (hbase : bm'.contains (.type "BaseException") = true)
    (hq : Q ((Value.ref C :: bm).contains (.ref C')) ⟨h, g, d, t, os⟩) : wpAny M A (excMatches (.ref e) (.ref C')) Q E ⟨h, g, d, t, os⟩ := by
  have hcB : (Value.ref C' :: bm').contains (.type "BaseException") = true := by rw [List.contains_cons, hbase, Bool.or_true]
  have f := tc_notTuple
  generalize hb : (Value.ref C :: bm).contains (.ref C') = b at hq
  unfold excMatches
  repeat (first | (with_reducible refine wpAny_loadPart_at he ?_; rw [hcls]) | with_reducible refine wpAny_loadPart_at hD ?_ | (with_reducible refine wpAny_isSubtype_exc hD ?_; rw [hcB]) | (with_reducible refine wpAny_isSubtype_exc hC ?_; rw [hb]) | wp_step)
  cases b <;> (wp_walk; exact hq)
end
section
variable {cx : Cx} {N : Names} {A : Around} {Φ : Funs} {l : List Env} {d : Nat} {env : Env} {sc : Scope} {ns : List (Option Str)} {Γ : Env'} {H : Hp} {ρ ρ₀ : Rho} {s : Shared} {h : Heap} {c : Nat} {e : Value} {Q : Flow → Shared → Prop} {E : Value → Shared → Prop}
theorem wp_pass (lb : Live cx.h₀ h) (fl : Flown cx ρ h s.heap c e) {what : String} (k : ∀ h', Off cx ρ h s.heap h' → Flown cx ρ h h' c e → E e { s with heap := h' }) : wpAny (model cx.prog cx.w) A (passOn what e env : Sem Flow) Q E s := by
  refine hideG fun G kG => ?_
  obtain ⟨a, C, vs, tb, tvs, rfl, hC, ha, ga, hz, no, h1, htb, gtb, hzt, not⟩ := fl.is
  refine kG ?_
  unfold passOn
  refine wpAny_bind (wpAny_field ga rfl h1 ?_)
  exact wpAny_bind (wp_flight lb ⟨a, C, vs, tb, tvs, rfl, hC, ha, ga, hz, no, h1, htb, gtb, hzt, not⟩ fun h' o' fl' => wpAny_throw (k h' o' fl'))
theorem suite_ok {e : Value} {b : MSs} {ts : List Stmt} {K : Nat → Bool} {v : Val} {H' : Hp} {Γ' : Env'} (G : GroundC cx N (A.mark (some e)) Φ (env :: l) K) (ha : Apart ns) (hc : calmSs K b = true) (hk : ckSs N sc ns b ts = true) (hr : execSs cx.T Φ b Γ' H = .ret v H') (R : Rel cx H ρ s) (e0 : EnvOk cx env sc ns Γ' ρ s.heap) (w : FramesOk cx (env :: l) ρ s.heap) (F : FullS env ρ₀ h ρ s.heap)
    (k : ∀ v' ρ' s', FullS env ρ₀ h ρ' s'.heap → Rel cx H' ρ' s' → VR cx ρ' s'.heap v v' → EnvSt cx env sc ρ' s'.heap → Q (.ret v') s') : wpAny (model cx.prog cx.w) (A.mark (some e)) (execs ts env) Q (fun x s' => False) s := by
  have y := soksC (env := env) G ha b ts hc hk Γ' H ρ s R e0 w
  rw [hr] at y
  exact wpAny_mono y (fun f s' ⟨v', ρ', h1, F1, R1, vr⟩ => by refine Eq.symm h1 ▸ ?_; exact k v' ρ' s' (F.trans F1) R1 vr.1 vr.2) fun _ _ q => q.elim
theorem Step.loc {h h' : Heap} (x : EnvSt cx env sc ρ h) (sb : Heap.SameBut env.locals h h') (e' : ∃ o, h'.get? env.locals = some o) : Step ρ h ρ h' := by
  have k : ∀ b o, h.get? b = some o → b ≠ env.locals → h'.get? b = some o := fun b o e n => (sb.2 b n).trans e
  exact ⟨⟨[], by simp⟩, fun b o e f n => ⟨k b o e (x.notLoc e f.notDict), n⟩, fun b o C e f n => ⟨o, k b o e (x.notLoc e f.notDict), f, n⟩⟩
theorem name_goes {n : Str} {pos : Pos} {Q : Unit → Shared → Prop} (hl : sc.names.lookup n = some .local) (R : Rel cx H ρ s) (st : EnvSt cx env sc ρ s.heap) (F : FullS env ρ₀ h ρ s.heap)
    (k : ∀ h' tk, FullS env ρ₀ h ρ h' → Rel cx H ρ { s with heap := h', toks := tk } → Step ρ s.heap ρ h' → EnvSt cx env sc ρ h' → Q () { s with heap := h', toks := tk }) : wpAny (model cx.prog cx.w) A (do bindName env n .none; unbindBehindTheSuite env n pos) Q E s := by
  obtain ⟨m, hm⟩ := st.loc
  refine wpAny_nameGoes (m := m) (st.kinds n _ hl) hm (by rw [st.fn]; rfl) fun h' m' hn' sb => ?_
  refine hideG fun G kG => ?_
  obtain ⟨o', es', ep', e', d', _⟩ := id hn'
  refine kG ?_
  have stp := Step.loc st sb ⟨o', e'⟩
  have kk : ∀ b o, s.heap.get? b = some o → b ≠ env.locals → h'.get? b = some o := fun b o e n => (sb.2 b n).trans e
  refine k h' _ ⟨F.grow, fun b o e n n1 n2 => ?_, fun b o e => ?_⟩ (R.same stp (fun b o w e => kk b o e fun q => st.locN (q ▸ w)) fun b o e => kk b o (R.base b o e) fun q => by rw [q, st.locB] at e; exact nomatch e) stp ⟨st.fn, st.glob, st.blt, st.kinds, ⟨m', hn'⟩, st.locN, st.locB, fun y c hc => ?_, st.hasCell, st.apart⟩
  · obtain ⟨o1, e1, u1⟩ := F.keep b o e n n1 n2
    exact ⟨o1, kk b o1 e1 n1, u1⟩
  · obtain ⟨o1, e1⟩ := F.live b o e
    by_cases q : b = env.locals
    · exact ⟨o', q ▸ e'⟩
    · exact ⟨o1, kk b o1 e1 q⟩
  · refine hideG fun G kG => ?_
    obtain ⟨⟨v, o, eo, dv⟩, n, b⟩ := st.cells y c hc
    refine kG ?_
    exact ⟨⟨v, o, kk c o eo (st.notLoc eo fun es k q => by rw [dv] at q; cases q), dv⟩, n, b⟩
theorem exh_cons (T : Tab) (Φ : Funs) (d : Nat) (i : Option Nat) (body : MSs) (hs : MHs) (c : Nat) (Γ : Env') (H : Hp) : execH T Φ (.cons d i body hs) c Γ H = (if (T.isExc c && T.isExc d && calmSs (calmFn T) body) = false then .bad else if T.sub c d = true then
      match execSs T Φ body (match i with | some i => Γ.set i (some (.exc c)) | none => Γ) H with
      | .ret v H' => .ret v H'
      | _ => .bad
    else execH T Φ hs c Γ H) := rfl
theorem exh_ret {r : ResS} (h : (match r with | .ret v H' => ResS.ret v H' | _ => .bad) ≠ .bad) : ∃ v H', r = .ret v H' := by
  cases r with
  | ret v H' => exact ⟨v, H', rfl⟩
  | bad => exact absurd rfl h
  | next _ _ => exact absurd rfl h
  | exc _ _ _ => exact absurd rfl h
theorem handler_ok (G : Ground cx N A Φ (env :: l) d) (FC : FunsC cx Φ d) (ha : Apart ns) (lb : Live cx.h₀ h) {b : MSs} {i : Option Nat} {y : Option Str} {t : Stmt} {ts : List Stmt} {pos : Pos} {v : Val} {H' : Hp} (hcalm : calmSs (calmFn cx.T) b = true) (hck : ckSs N sc ns b (t :: ts) = true) (hr : execSs cx.T Φ b (match i with | some i => Γ.set i (some (.exc c)) | none => Γ) H = .ret v H') (hnm : hdName sc ns i y = true)
    (R : Rel cx H ρ s) (e0 : EnvOk cx env sc ns Γ ρ s.heap) (w : FramesOk cx (env :: l) ρ s.heap) (F : FullS env ρ₀ h ρ s.heap) (fl : Flown cx ρ h s.heap c e) (p : PostS cx env sc ns ρ₀ h (.ret v H') Q E) :
    codeAny (model cx.prog cx.w) (A.mark (some e)) (.handlers e [.ExceptHandler none y (t :: ts) pos] env) (fun r s₂ => match r with
          | .ok f => (match (generalizing := false) y with
            | none => Q f s₂
            | some n => wpAny (model cx.prog cx.w) A (do bindName env n .none; unbindBehindTheSuite env n pos) (fun _ s₃ => Q f s₃) E s₂)
          | .error x => cameBackBy (model cx.prog cx.w) A env E x s₂) s := by
  have GC : GroundC cx N (A.mark (some e)) Φ (env :: l) (calmFn cx.T) := ⟨G.base, G.u, fun f a args vals hc hf => FC f a args vals (A.mark (some e)) (env :: l) hc hf ⟨by have := G.room.depth; show A.depth + _ + _ < _; omega, by have := G.room.units; show A.units + _ + _ < _; omega⟩ G.frames, G.defs⟩
  cases i with
  | none =>
    cases y with
    | some _ => exact no_true hnm
    | none =>
      refine codeAny_handlers_suite (wp_flight lb fl fun h1 o1 fl1 => ?_)
      exact wpAny_mono (suite_ok (s := { s with heap := h1 }) GC ha hcalm hck hr (o1.rel R) (o1.envK e0) (o1.frames w) (o1.fullS F) fun v' ρ' s' F' R' vr st => p s' ρ' v' F' R' ⟨vr, st⟩) (fun _ _ q => q) fun _ _ q => q.elim
  | some i =>
    cases y with
    | none => exact no_true hnm
    | some n =>
      have hown : isOwn sc ns i n = true := an1 hnm
      have hloc : sc.names.lookup n = some .local := of_decide_eq_true (an2 hnm)
      refine codeAny_handlers_suite_as (wp_flight lb fl fun h1 o1 fl1 => ?_)
      refine store_var (s := { s with heap := h1 }) (o1.envK e0).len ha (o1.rel R) (o1.envK e0) hown fl1.vr fun h2 tk2 F2 R2 e2 _ => ?_
      refine wpAny_mono (suite_ok (s := { s with heap := h2, toks := tk2 }) GC ha hcalm hck hr R2 e2 ((o1.frames w).stmt F2 (o1.envK e0).st e2.st) ((o1.fullS F).trans F2) fun v' ρ' s' F' R' vr st => ?_) (fun _ _ q => q) fun _ _ q => q.elim
      exact name_goes hloc R' st F' fun h3 tk3 F3 R3 stp st3 => p { s' with heap := h3, toks := tk3 } ρ' v' F3 R3 ⟨vr.step stp, st3⟩
theorem handle_ok (G : Ground cx N A Φ (env :: l) d) (FC : FunsC cx Φ d) (ha : Apart ns) (lb : Live cx.h₀ h) : ∀ (hs : MHs) (hx : List ExceptHandler), ckHs N sc ns hs hx = true → Rel cx H ρ s → EnvOk cx env sc ns Γ ρ s.heap → FramesOk cx (env :: l) ρ s.heap → FullS env ρ₀ h ρ s.heap → Flown cx ρ h s.heap c e → execH cx.T Φ hs c Γ H ≠ .bad → PostS cx env sc ns ρ₀ h (execH cx.T Φ hs c Γ H) Q E → wpAny (model cx.prog cx.w) A (handleBy e env hx) Q E s
  | .nil, [], _, R, e0, w, F, fl, _, p => wpAny_handleBy_nil (wp_pass lb fl fun h' o' fl' => p e { s with heap := h' } ρ (o'.fullS F) (o'.rel R) (o'.envK e0) fl'.to)
  | .nil, _ :: _, hk, _, _, _, _, _, _, _ => by cases (show false = true from hk)
  | .cons _ _ _ _, [], hk, _, _, _, _, _, _, _ => by cases (show false = true from hk)
  | .cons dc i b hs, hd :: hx, hk, R, e0, w, F, fl, nb, p => by
    obtain ⟨t, hc⟩ := seen_of (an1 hk)
    rw [t.2]
    rw [exh_cons] at nb p
    by_cases q1 : (cx.T.isExc c && cx.T.isExc dc && calmSs (calmFn cx.T) b) = false
    · rw [if_pos q1] at nb; exact absurd rfl nb
    rw [if_neg q1] at nb p
    have q2 : (cx.T.isExc c && cx.T.isExc dc && calmSs (calmFn cx.T) b) = true := by cases q : (cx.T.isExc c && cx.T.isExc dc && calmSs (calmFn cx.T) b) <;> first | rfl | exact absurd q q1
    obtain ⟨mg, mb, ng, nbl, _, _, qc, _⟩ := G.base.ns
    obtain ⟨Dv, hDv, hxv⟩ := qc _ dc (hasNo_eq (an2 (an1 (an1 hc))))
    obtain ⟨C, hC, okC⟩ := G.base.exc c (an1 (an1 q2))
    obtain ⟨D, hD, okD⟩ := G.base.exc dc (an2 (an1 q2))
    rw [hD] at hDv; cases hDv
    obtain ⟨nm, qn, Nn, bs, bm, hdct, sn, sub, ab, col, dd, k0, k1, k2, k3, k5, mN, hCo, hNs, hin, tl, hsub⟩ := okC.is
    obtain ⟨nm', qn', Nn', bs', bm', hdct', sn', sub', ab', col', dd', k0', k1', k2', k3', k5', mN', hDo, hNs', hin', tl', hsub'⟩ := okD.is
    obtain ⟨a, C', vs, tb, tvs, he, hC', hna, ga, hz, no, h7⟩ := id fl.is
    rw [hC] at hC'; cases hC'
    refine wpAny_handleBy_cons (codeAny_handlers_test (wp_glob (A := A.mark (some e)) R e0.st (an1 (an1 (an1 hc))) ng nbl hxv ?_)) (by rw [he]; intro q; cases q)
    have m := hsub dc (.ref D) hD
    have goal : ∀ z, (Value.ref C :: bm).contains (.ref D) = z → (if z = true then codeAny (model cx.prog cx.w) (A.mark (some e)) (.handlers e [.ExceptHandler none t.1.2.2.1 (t.1.2.2.2.1 :: t.1.2.2.2.2.1) t.1.2.2.2.2.2] env) (fun r s₂ => match r with
          | .ok f => (match t.1.2.2.1 with
            | none => Q f s₂
            | some n => wpAny (model cx.prog cx.w) A (do bindName env n .none; unbindBehindTheSuite env n t.1.2.2.2.2.2) (fun _ s₃ => Q f s₃) E s₂)
          | .error x => cameBackBy (model cx.prog cx.w) A env E x s₂) s else wpAny (model cx.prog cx.w) A (handleBy e env hx) Q E s) := by
      intro z hz'
      rw [hz'] at m
      rw [m] at nb p
      cases z with
      | true =>
        rw [if_pos rfl] at nb p ⊢
        obtain ⟨v, H', hr⟩ := exh_ret nb
        rw [hr] at p
        exact handler_ok G FC ha lb (an2 q2) (an2 (an1 hc)) hr (an2 hc) R e0 w F fl p
      | false =>
        rw [if_neg (by decide)] at nb p ⊢
        exact handle_ok G FC ha lb hs hx (an2 hk) R e0 w F fl nb p
    have g := goal _ rfl
    rw [he]
    rw [he] at g
    obtain ⟨hp, gg, dr, tk, os⟩ := s
    refine wp_matches (R.base _ _ hCo) (R.base _ _ hDo) ga rfl (tl'.hasType (by decide)) ?_
    cases z : (Value.ref C :: bm).contains (.ref D) with
    | true => rw [z, if_pos rfl] at g; exact g
    | false => rw [z, if_neg (by decide)] at g; exact g
theorem sim_try (G : Ground cx N A Φ (env :: l) d) (FC : FunsC cx Φ d) (ha : Apart ns) (hef : env.frame = some env.locals) {b : MSs} {hs : MHs} {ts : List Stmt} {h0 : ExceptHandler} {hx : List ExceptHandler} {pos : Pos} (hb : SimS cx A (env :: l) env sc ns (execs ts env) (execSs cx.T Φ b)) (hk : ckHs N sc ns hs (h0 :: hx) = true) :
    SimS cx A (env :: l) env sc ns (exec (.Try ts (h0 :: hx) [] [] pos) env) (execS cx.T Φ (.tryx b hs)) := by
  intro Γ H ρ s R e0 fr
  have B := hb Γ H ρ s R e0 fr
  have ex : execS cx.T Φ (.tryx b hs) Γ H = (match execSs cx.T Φ b Γ H with | .exc c Γ' H' => execH cx.T Φ hs c Γ' H' | r => r) := rfl
  rw [ex]
  cases hr : execSs cx.T Φ b Γ H with
  | bad => trivial
  | next Γ' H' =>
    rw [hr] at B
    exact wpAny_Try_except (wpAny_mono B (fun f s' ⟨h1, q⟩ => by refine Eq.symm h1 ▸ ?_; exact wpAny_execs_nil ⟨rfl, q⟩) fun _ _ q => q.elim)
  | ret v H' =>
    rw [hr] at B
    exact wpAny_Try_except (wpAny_mono B (fun f s' ⟨v', ρ', h1, q⟩ => by refine Eq.symm h1 ▸ ?_; exact ⟨v', ρ', rfl, q⟩) fun _ _ q => q.elim)
  | exc c Γ' H' =>
    rw [hr] at B
    refine SimSK.to (SimSK.ofPost (T := fun Q E s => wpAny (model cx.prog cx.w) A (exec (.Try ts (h0 :: hx) [] [] pos) env) Q E s) fun Q E nb p => ?_)
    refine wpAny_Try_except (wpAny_mono B (fun _ _ q => q.elim) fun e s' ⟨ρ', F, R', e', fl⟩ => ?_)
    have w' := fr.stmt F e0.st e'.st
    have lb : Live cx.h₀ s.heap := fun b o e => ⟨o, R.base b o e⟩
    refine wp_note G.frames hef w' R' lb F.live fl fun h1 o1 fl1 => wp_flight (s := { s' with heap := h1 }) lb fl1 fun h2 o2 fl2 => ?_
    have o := o1.trans o2
    exact handle_ok (s := { s' with heap := h2 }) G FC ha lb hs (h0 :: hx) hk (o.rel R') (o.envK e') (o.frames w') (o.fullS F) fl2 nb p
end
end Mine
-- part MBody
namespace Mine
open PySem
section
variable {cx : Cx} {N : Names} {A : Around} {Φ : Funs} {l : List Env} {d : Nat} {env : Env} {sc : Scope} {ns : List (Option Str)} {Γ : Env'} {H : Hp} {ρ ρ' : Rho} {s : Shared}
theorem sim_expr (G : Ground cx N A Φ l d) {m : ME} {x : Expr} {pos : Pos} (ha : Apart ns) (hm : ck N sc ns m x = true) (hc : notComp m = true) : SimS cx A l env sc ns (exec (.Expr x pos) env) (execS cx.T Φ (.expr m)) := by
  intro Γ H ρ s R e0 fr
  have nc : ∀ a b c, m ≠ .comp a b c := fun a b c q => by subst q; exact no_true hc
  refine SimSK.to (SimSAt.bindK (K := fun _ Q _ s => Q .next s) e0 ((eok G m x env sc ns Γ hm ha e0.len).val H ρ s R ⟨e0, fr⟩) (fun b v H1 ρ1 s1 _ F1 R1 e1 vr => ⟨rfl, ρ1, FullS.refl _ _ _, R1, e1⟩) (fun _ Q E Q' E' s h k1 _ => k1 _ _ h) fun Q E h => ?_)
  refine wpAny_Expr_any h ?_ (swaps_not hm nc)
  unfold interactive
  rw [e0.st.fn]; rfl
theorem sim_ret (G : Ground cx N A Φ l d) {m : MEo} {x : Option Expr} {pos : Pos} (ha : Apart ns) (hm : ckO N sc ns m x = true) : SimS cx A l env sc ns (exec (.Return x pos) env) (execS cx.T Φ (.ret m)) := by
  intro Γ H ρ s R e0 fr
  match m, x, hm with
  | .none, none, _ =>
    exact wpAny_Return_none ⟨_, ρ, rfl, FullS.refl _ _ _, R, .none, e0.st⟩
  | .some e, some x, hm =>
    exact SimSK.to (SimSAt.bindK (K := fun v Q _ s => Q (.ret v) s) e0 ((eok G e x env sc ns Γ hm ha e0.len).val H ρ s R ⟨e0, fr⟩) (fun b v H1 ρ1 s1 _ F1 R1 e1 vr => ⟨v, ρ1, rfl, FullS.refl _ _ _, R1, vr, e1.st⟩) (fun _ Q E Q' E' s h k1 _ => k1 _ _ h) fun Q E h => wpAny_Return_some h)
  | .none, some _, h => cases (show false = true from h)
  | .some _, none, h => cases (show false = true from h)
theorem sim_ite (G : Ground cx N A Φ l d) {c : ME} {t f : MSs} {x : Expr} {ts fs : List Stmt} {pos : Pos} (ha : Apart ns) (hm : ck N sc ns c x = true) (ht : SimS cx A l env sc ns (execs ts env) (execSs cx.T Φ t)) (hf : SimS cx A l env sc ns (execs fs env) (execSs cx.T Φ f)) :
    SimS cx A l env sc ns (exec (.If x ts fs pos) env) (execS cx.T Φ (.ite c t f)) := by
  intro Γ H ρ s R e0 fr
  refine SimSK.to (SimSAt.bindK (K := fun b Q E s => if b = true then wpAny (model cx.prog cx.w) A (execs ts env) Q E s else wpAny (model cx.prog cx.w) A (execs fs env) Q E s) e0 ((eok G c x env sc ns Γ hm ha e0.len).tru H ρ s R ⟨e0, fr⟩) ?_ ?_ fun Q E h => wpAny_If h)
  · intro b b' H1 ρ1 s1 _ F1 R1 e1 hb
    have hb' : b' = b := hb
    refine hb' ▸ ?_
    cases b' with
    | true => exact (SimSK.of (ht Γ H1 ρ1 s1 R1 e1 (fr.full F1))).mono fun Q E h => h
    | false => exact (SimSK.of (hf Γ H1 ρ1 s1 R1 e1 (fr.full F1))).mono fun Q E h => by simpa using h
  · intro b Q E Q' E' s h k1 k2
    cases b
    · simp only [Bool.false_eq_true, if_false] at h ⊢; exact wpAny_mono h k1 k2
    · simp only [if_true] at h ⊢; exact wpAny_mono h k1 k2
set_option maxHeartbeats 4000000 in
mutual
theorem sok (G : Ground cx N A Φ (env :: l) d) (FC : FunsC cx Φ d) (ha : Apart ns) (hef : env.frame = some env.locals) : ∀ (m : MS) (st : Stmt), ckS N sc ns m st = true → SimS cx A (env :: l) env sc ns (exec st env) (execS cx.T Φ m)
  | .expr e, st, h => by
    obtain ⟨t, h⟩ := seen_of h
    rw [t.2]
    exact sim_expr G ha (an1 h) (an2 h)
  | .assign i e, st, h => by
    obtain ⟨t, h⟩ := seen_of h
    rw [t.2]
    exact sim_assign G ha (an1 h) (an2 h)
  | .setattr o n e, st, h => by
    obtain ⟨t, h⟩ := seen_of h
    rw [t.2]
    exact sim_setattr G ha (an1 (an1 h)) (an2 (an1 h)) (an2 h)
  | .setitem o i e, st, h => by
    obtain ⟨t, h⟩ := seen_of h
    rw [t.2]
    exact sim_setitem G ha (an1 (an1 h)) (an2 (an1 h)) (an2 h)
  | .ret e, st, h => by
    obtain ⟨t, h⟩ := seen_of h
    rw [t.2]
    exact sim_ret G ha h
  | .ite c t f, st, h => by
    obtain ⟨p, h⟩ := seen_of h
    rw [p.2]
    exact sim_ite G ha (an1 (an1 h)) (soks G FC ha hef t p.1.2.1 (an2 (an1 h))) (soks G FC ha hef f p.1.2.2.1 (an2 h))
  | .each i it b, st, h => by
    obtain ⟨t, h⟩ := seen_of h
    rw [t.2]
    exact sim_each G.room.hh G.frames ha (an1 (an1 (an1 h))) (an2 (an1 h)) (fun Γ hΓ => eok G it t.1.2.2.1 env sc ns Γ (an2 (an1 (an1 h))) ha hΓ) (soks G FC ha hef b t.1.2.2.2.1 (an2 h))
  | .eachEnum i j a body, st, h => by
    obtain ⟨t, h⟩ := seen_of h
    rw [t.2]
    obtain ⟨u, h4⟩ := seen_of (an2 h)
    rw [u.2]
    exact sim_eachEnum G.base G.room.hh G.frames ha (an1 (an1 (an1 h))) (an2 (an1 (an1 h))) (an1 (an1 h4)) (of_decide_eq_true (an2 (an1 h4))) (ck_notStar (an2 h4)) (fun Γ hΓ => eok G a u.1.2.2.1 env sc ns Γ (an2 h4) ha hΓ) (soks G FC ha hef body t.1.2.2.1 (an2 (an1 h)))
  | .raise c msg, st, h => by
    obtain ⟨t, h⟩ := seen_of h
    rw [t.2]
    have e := of_decide_eq_true (an2 (an1 h))
    have hk := an2 h
    rw [e] at hk ⊢
    exact sim_raise G ha (an1 (an1 (an1 h))) (an2 (an1 (an1 h))) hk
  | .tryx b hs, st, h => by
    obtain ⟨t, h⟩ := seen_of h
    rw [t.2]
    exact sim_try G FC ha hef (soks G FC ha hef b t.1.1 (an1 h)) (an2 h)
theorem soks (G : Ground cx N A Φ (env :: l) d) (FC : FunsC cx Φ d) (ha : Apart ns) (hef : env.frame = some env.locals) : ∀ (m : MSs) (sts : List Stmt), ckSs N sc ns m sts = true → SimS cx A (env :: l) env sc ns (execs sts env) (execSs cx.T Φ m)
  | .nil, [], _ => by
    intro Γ H ρ s R e0 fr
    exact wpAny_execs_nil ⟨rfl, ρ, FullS.refl _ _ _, R, e0⟩
  | .nil, _ :: _, h => by cases (show false = true from h)
  | .cons _ _, [], h => by cases (show false = true from h)
  | .cons m ms, st :: sts, h => by
    have h := And.intro (an1 h) (an2 h)
    intro Γ H ρ s R e0 fr
    exact sim_then e0 fr (sok G FC ha hef m st h.1 Γ H ρ s R e0 fr) (soks G FC ha hef ms sts h.2)
end
theorem body_ok {d : Nat} (B : Base cx N) (defs : ∀ (f : Nat) (a : Addr), cx.fns[f]? = some a → ∃ g, cx.T.funs[f]? = some g) {Φ : Funs} (hΦ : FunsOk cx Φ d) (FC : FunsC cx Φ d) : BodyOk cx N Φ d :=
  fun body stmts env sc ns A l hck ha room hfr hef => soks (Φ := Φ) ⟨B, room, hfr, hΦ, defs⟩ FC ha hef body stmts hck
theorem funs_ok (B : Base cx N) (defs : ∀ (f : Nat) (a : Addr), cx.fns[f]? = some a → ∃ g, cx.T.funs[f]? = some g) : ∀ d, FunsOk cx (callF cx.T d) d
  | 0 => fun k a args vals A l _ _ _ H ρ s R p => trivial
  | d + 1 => FunsOk.step B (body_ok B defs (funs_ok B defs d) (funsC_ok B defs d))
end
end Mine
-- part MHead
namespace Mine
open PySem PySem.W.X
noncomputable def sameB (a b : Value) : Bool := decide (a = b)
theorem sameB_eq {a b : Value} (h : sameB a b = true) : a = b := of_decide_eq_true h
noncomputable def intOf : Value → Option Int
  | .int b _ => some b
  | _ => none
theorem intOf_eq {w : Value} {a : Int} (h : intOf w = some a) : ∃ t, w = .int a t := by
  cases w with
  | int b t => cases h; exact ⟨t, rfl⟩
  | _ => exact no_some h
noncomputable def strOf : Value → Option Str
  | .str b _ => some b
  | _ => none
theorem strOf_eq {w : Value} {a : Str} (h : strOf w = some a) : ∃ t, w = .str a t := by
  cases w with
  | str b t => cases h; exact ⟨t, rfl⟩
  | _ => exact no_some h
noncomputable def litOk (v : Val) (w : Value) : Bool := match v with
  | .int a => decide (intOf w = some a)
  | .str a => decide (strOf w = some a) && decide (a.length ≤ 1000)
  | _ => false
theorem litOk_vr {cx : Cx} {ρ : Rho} {h : Heap} {v : Val} {w : Value} (x : litOk v w = true) : VR cx ρ h v w := by
  cases v with
  | int a =>
    obtain ⟨t, hr0⟩ := intOf_eq (of_decide_eq_true x); refine Eq.symm hr0 ▸ ?_
    exact .int _ _
  | str a =>
    have x : (decide (strOf w = some a) && decide (a.length ≤ 1000)) = true := x
    obtain ⟨t, hr1⟩ := strOf_eq (of_decide_eq_true (an1 x)); refine Eq.symm hr1 ▸ ?_
    exact .str _ _ (Nat.le_trans (of_decide_eq_true (an2 x)) (by skip; decide))
  | _ => exact no_true x
theorem seen_at {α : Type} {o : Option α} {f : α → Bool} (h : seen o f = true) : ∃ a, o = some a ∧ f a = true := by
  cases o with
  | none => exact no_true h
  | some a => exact ⟨a, rfl, h⟩
noncomputable def dRef (v : Value) : Option { a : Addr // v = .ref a } := match v with
  | .ref a => some ⟨a, rfl⟩
  | _ => none
noncomputable def dVS (v : Value) : Option { p : Str × Tok // v = .str p.1 p.2 } := match v with
  | .str a b => some ⟨(a, b), rfl⟩
  | _ => none
noncomputable def dFld (d : Data) : Option { p : Array Value // d = .fields p } := match d with
  | .fields p => some ⟨p, rfl⟩
  | _ => none
noncomputable def dFun (d : Data) : Option { p : FuncData // d = .func p } := match d with
  | .func p => some ⟨p, rfl⟩
  | _ => none
noncomputable def dCls (d : Data) : Option { p : ClassData // d = .cls p } := match d with
  | .cls p => some ⟨p, rfl⟩
  | _ => none
noncomputable def dDct (d : Data) : Option { p : Array DictEntry × Nat // d = .dict p.1 p.2 } := match d with
  | .dict p q => some ⟨(p, q), rfl⟩
  | _ => none
noncomputable def dStm (d : FuncBody) : Option { p : List Stmt // d = .stmts p } := match d with
  | .stmts p => some ⟨p, rfl⟩
  | _ => none
noncomputable def codeOk (t : Addr → Option Obj) (c : Value) (q : Str) : Bool :=
  seen (dRef c) fun a => seen (t a.1) fun o => seen (dFld o.data) fun vs => seen (vs.1[1]? : Option Value) fun x => seen (dVS x) fun y => decide (y.1.1 = q)
noncomputable def fnAt (N : Names) (t : Addr → Option Obj) (a : Nat) (f : MFun) (ns : List Str) : Bool :=
  seen (t a) fun o => seen (dFun o.data) fun p => seen (dStm p.1.body) fun body => ckF N f ns p.1.params body.1 p.1.scope && (p.1.closure.isEmpty && (Nat.beq p.1.globals mainGlobals && (Nat.beq p.1.builtins builtinsNs && (sameB p.1.defaults .none && (sameB p.1.kwdefaults .none && (codeOk t p.1.code p.1.qualname && sameB o.cls (.type "function")))))))
noncomputable def fnsAt (N : Names) (t : Addr → Option Obj) : List Addr → List MFun → List (List Str) → Bool
  | [], [], [] => true
  | a :: as, f :: fs, ns :: nss => fnAt N t a f ns && fnsAt N t as fs nss
  | _, _, _ => false
noncomputable def topOk (es : Array DictEntry) (N : Names) (T : Tab) (cls : List Value) (fns : List Addr) : Bool :=
  (N.funs.all fun p => seen fns[p.2]? fun a => seen (nsFind es p.1) fun v => sameB (.ref a) v) &&
  ((N.globs.all fun p => seen T.globs[p.2]? fun m => seen (nsFind es p.1) fun v => litOk m v) &&
  ((N.clss.all fun p => seen cls[p.2]? fun c => (seen (nsFind es p.1) fun v => sameB c v) || ((nsFind es p.1).isNone && seen (bootBuiltins p.1) fun v => sameB c v && !decide (p.1 = ("__name__" : Str)))) &&
  (bltTab.all fun p => (nsFind es p.1).isNone && (!decide (p.1 = ("__name__" : Str)) && seen (bootBuiltins p.1) fun v => sameB p.2 v))))
noncomputable def isFn (t : Addr → Option Obj) (a : Nat) : Bool := seen (t a) fun o => sameB o.cls (.type "function") && (dFun o.data).isSome
noncomputable def strKey (v : Value) : Bool := (dVS v).isSome
theorem strKey_eq {v : Value} (h : strKey v = true) : ∃ a b, v = .str a b := by
  obtain ⟨x, _⟩ := Option.isSome_iff_exists.mp h
  exact ⟨_, _, x.2⟩
noncomputable def newSlot (o : Option Value) : Bool := seen o fun v => sameB v (.builtin "object.__new__")
noncomputable def noObj (y : Str) : Bool := seen (fastLookup "object" y) fun r => r.isNone
noncomputable def anyObj (y : Str) : Bool := (fastLookup "object" y).isSome
noncomputable def nsCls (t : Addr → Option Obj) (N : Names) (T : Tab) (attrs : List Str) (fns : List Addr) (c : Nat) (es : Array DictEntry) : Bool :=
  (es.toList.all fun e => strKey e.key) && ((nsFind es "__getattribute__").isNone && ((nsFind es "__getattr__").isNone && ((nsFind es "__setattr__").isNone &&
  ((attrs.all fun y => (nsFind es y).isNone && noObj y) &&
  (N.meths.all fun p => (T.meth c p.2).isNone || seen (T.meth c p.2) fun k => seen fns[k]? fun fa => seen (nsFind es p.1) fun v => sameB (.ref fa) v && (isFn t fa && (!(attrs.contains p.1) && anyObj p.1)))))))
noncomputable def slots6 (l : List (Option Value)) : Option { p : Option Value × Option Value × Option Value × Option Value × Option Value × Option Value // l = [p.1, p.2.1, p.2.2.1, p.2.2.2.1, p.2.2.2.2.1, p.2.2.2.2.2] } := match l with
  | [a, b, c, d, e, f] => some ⟨(a, b, c, d, e, f), rfl⟩
  | _ => none
noncomputable def clsAt (t : Addr → Option Obj) (N : Names) (T : Tab) (attrs : List Str) (fns : List Addr) (c : Nat) (v : Value) : Bool :=
  seen (dRef v) fun C => seen (t C.1) fun o => seen (dCls o.data) fun p => sameB o.cls (.type "type") && (decide (p.1.mro = [.ref C.1, .type "object"]) && (p.1.hasDict && (!p.1.abstract && (!p.1.hasDel && ((seen (slots6 o.slots.toList) fun q => newSlot q.1.2.2.2.2.1) && seen (t p.1.ns) fun on => seen (dDct on.data) fun es => nsCls t N T attrs fns c es.1.1)))))
noncomputable def clssAt (t : Addr → Option Obj) (N : Names) (T : Tab) (attrs : List Str) (fns : List Addr) : Nat → List Value → Bool
  | _, [] => true
  | c, v :: vs => ((T.meth c 0).isNone || clsAt t N T attrs fns c v) && clssAt t N T attrs fns (c + 1) vs
noncomputable def attrsOk (N : Names) (attrs : List Str) : Bool :=
  (N.attrs.all fun p => seen attrs[p.2]? fun y => decide (y = p.1)) && (nodupS (attrs.map some) && (decide (attrs.length ≤ 1000) && hasNo N.meths "__init__" 0))
noncomputable def headOk (t : Addr → Option Obj) (N : Names) (T : Tab) (cls : List Value) (fns : List Addr) (nss : List (List Str)) : Bool :=
  (seen (t mainGlobals) fun o => seen (dDct o.data) fun es => topOk es.1.1 N T cls fns) && fnsAt N t fns T.funs nss
noncomputable def Has (h : Heap) (t : Addr → Option Obj) : Prop := ∀ a o, t a = some o → h.get? a = some o
theorem kt_get {h : Heap} {t : Addr → Option Obj} (Z : Has h t) {a : Nat} {o : Obj} (e : t a = some o) : h.get? a = some o := Z a o e
set_option tactic.hygienic true in
theorem codeOk_rec {h : Heap} {t : Addr → Option Obj} (Z : Has h t) {c : Value} {q : Str} (x : codeOk t c q = true) : h.CodeRec c q := by
  obtain ⟨a, x⟩ := seen_of x
  obtain ⟨o, e, x⟩ := seen_at x
  obtain ⟨vs, x⟩ := seen_of x
  obtain ⟨v, hv, x⟩ := seen_at x
  obtain ⟨y, x⟩ := seen_of x
  exact of_decide_eq_true x ▸ ⟨_, o, vs.1, y.1.2, a.2, kt_get Z e, vs.2, hv.trans (congrArg some y.2)⟩
theorem fnAt_ok {cx : Cx} {N : Names} {t : Addr → Option Obj} (Z : Has cx.h₀ t) {a : Nat} {f : MFun} {ns : List Str} (x : fnAt N t a f ns = true) : FnOk cx N a f := by
  obtain ⟨o, e, x⟩ := seen_at x
  obtain ⟨p, x⟩ := seen_of x
  obtain ⟨b, x⟩ := seen_of x
  have x2 := an2 x
  have x3 := an2 x2
  have x4 := an2 x3
  have x5 := an2 x4
  have x6 := an2 x5
  have x7 := an2 x6
  exact ⟨o, p.1, b.1, ns, kt_get Z e, sameB_eq (an2 x7), p.2, codeOk_rec Z (an1 x7), b.2, List.isEmpty_iff.mp (an1 x2), Nat.eq_of_beq_eq_true (an1 x3), Nat.eq_of_beq_eq_true (an1 x4), sameB_eq (an1 x5), sameB_eq (an1 x6), an1 x⟩
theorem fnsAt_get {N : Names} {t : Addr → Option Obj} : ∀ {fns : List Addr} {fs : List MFun} {nss : List (List Str)}, fnsAt N t fns fs nss = true → fns.length = fs.length ∧ ∀ (k : Nat) (a : Addr) (f : MFun), fns[k]? = some a → fs[k]? = some f → ∃ ns, fnAt N t a f ns = true
  | [], [], [], _ => ⟨rfl, fun k a f h _ => by simp at h⟩
  | a :: as, f :: fs, ns :: nss, h => by
    have h := And.intro (an1 h) (an2 h)
    obtain ⟨l, r⟩ := fnsAt_get h.2
    refine ⟨by simp [l], fun k b g h1 h2 => ?_⟩
    cases k with
    | zero => simp at h1 h2; subst h1 h2; exact ⟨ns, h.1⟩
    | succ k => exact r k b g (by simpa using h1) (by simpa using h2)
  | [], [], _ :: _, h => by cases (show false = true from h)
  | [], _ :: _, _, h => by cases (show false = true from h)
  | _ :: _, [], _, h => by cases (show false = true from h)
  | _ :: _, _ :: _, [], h => by cases (show false = true from h)
theorem noObj_eq {y : Str} (h : noObj y = true) : typeLookup (.type "object") y = pure none := by
  obtain ⟨r, e, h⟩ := seen_at h
  rw [typeLookup_type, builtinLookup_eq_fast, e, Option.isNone_iff_eq_none.mp h]
theorem anyObj_eq {y : Str} (h : anyObj y = true) : ∃ r, typeLookup (.type "object") y = pure r := by
  obtain ⟨r, e⟩ := Option.isSome_iff_exists.mp h
  exact ⟨r, by rw [typeLookup_type, builtinLookup_eq_fast, e]⟩
theorem isFn_eq {h : Heap} {t : Addr → Option Obj} (Z : Has h t) {a : Nat} (x : isFn t a = true) : ∃ o fd, h.get? a = some o ∧ o.cls = .type "function" ∧ o.data = .func fd := by
  obtain ⟨o, e, x⟩ := seen_at x
  obtain ⟨p, _⟩ := Option.isSome_iff_exists.mp (an2 x)
  exact ⟨o, p.1, kt_get Z e, sameB_eq (an1 x), p.2⟩
theorem obj_is {o : Obj} {cd : ClassData} {C : Addr} {bm : List Value} {k0 k1 k2 k3 k5 : Option Value} {nw : String} (x1 : o.cls = .type "type") (hd : o.data = .cls cd) (x2 : cd.mro = .ref C :: bm) (x5 : cd.hasDel = false) (hp : o.slots.toList = [k0, k1, k2, k3, some (.builtin nw), k5]) :
    o = excClassObj cd.name cd.qualname C cd.ns cd.bases bm cd.hasDict cd.slotNames cd.subclasses cd.abstract cd.collection o.dict k0 k1 k2 k3 k5 nw := by
  obtain ⟨oc, od, odata, oslots⟩ := o
  obtain ⟨cn, cb, cm, cns, cq, chd, csn, csub, cab, ccol, cdel⟩ := cd
  cases x1; cases hd; cases x2; cases x5
  exact congrArg _ (Array.toList_inj.mp hp)
theorem slot_of {l : List (Option Value)} {g : Option Value → Bool} {v : Value} (hg : ∀ o, g o = true → o = some v) (x : (seen (slots6 l) fun q => g q.1.2.2.2.2.1) = true) : ∃ k0 k1 k2 k3 k5, l = [k0, k1, k2, k3, some v, k5] := by
  obtain ⟨q, x⟩ := seen_of x
  exact ⟨q.1.1, q.1.2.1, q.1.2.2.1, q.1.2.2.2.1, q.1.2.2.2.2.2, hg _ x ▸ q.2⟩
theorem slot_is {o : Option Value} {v : Value} (x : (seen o fun w => sameB w v) = true) : o = some v := by
  obtain ⟨w, e, x⟩ := seen_at x
  exact e.trans (congrArg some (sameB_eq x))
theorem keys_of {es : Array DictEntry} (x : (es.toList.all fun e => strKey e.key) = true) : ∀ e ∈ es, ∃ a b, e.key = .str a b := fun e he => strKey_eq (List.all_eq_true.mp x e (Array.mem_toList_iff.mpr he))
theorem nsCls_ok {cx : Cx} {N : Names} {t : Addr → Option Obj} (Z : Has cx.h₀ t) {c : Nat} {es : Array DictEntry} {z : Str} {m k : Nat} (x : (N.meths.all fun p => (cx.T.meth c p.2).isNone || seen (cx.T.meth c p.2) fun k => seen cx.fns[k]? fun fa => seen (nsFind es p.1) fun v => sameB (.ref fa) v && (isFn t fa && (!(cx.attrs.contains p.1) && anyObj p.1))) = true) (hz : N.meths.lookup z = some m) (hk : cx.T.meth c m = some k) :
    ∃ fa fo fd, cx.fns[k]? = some fa ∧ nsFind es z = some (.ref fa) ∧ cx.h₀.get? fa = some fo ∧ fo.cls = .type "function" ∧ fo.data = .func fd ∧ (∀ n : Nat, cx.attrs[n]? ≠ some z) ∧ ∃ r, typeLookup (.type "object") z = pure r := by
  have x := List.all_eq_true.mp x (z, m) (mem_of_lookup hz)
  rcases (Bool.or_eq_true _ _).mp x with q | q
  · cases hk.symm.trans (Option.isNone_iff_eq_none.mp q)
  · obtain ⟨k', e, q1⟩ := seen_at q
    cases hk.symm.trans e
    obtain ⟨fa, hf, q2⟩ := seen_at q1
    obtain ⟨v, hv, q⟩ := seen_at q2
    obtain ⟨fo, fd, f1, f2, f3⟩ := isFn_eq Z (an1 (an2 q))
    exact ⟨fa, fo, fd, hf, hv.trans (congrArg some (sameB_eq (an1 q)).symm), f1, f2, f3, fun n hn => of_decide_eq_false ((List.contains_eq_mem z cx.attrs).symm.trans (not_not (an1 (an2 (an2 q))))) (List.mem_of_getElem? hn), anyObj_eq (an2 (an2 (an2 q)))⟩
theorem clsAt_ok {cx : Cx} {N : Names} {t : Addr → Option Obj} (Z : Has cx.h₀ t) {c : Nat} {v : Value} (x : clsAt t N cx.T cx.attrs cx.fns c v = true) : ∃ C, v = .ref C ∧ ClsOk cx N c C := by
  obtain ⟨C, x⟩ := seen_of x
  obtain ⟨o, e, x⟩ := seen_at x
  obtain ⟨p, x⟩ := seen_of x
  have x2 := an2 x
  have x3 := an2 x2
  have x4 := an2 x3
  have x5 := an2 x4
  have x6 := an2 x5
  obtain ⟨on, en, x7⟩ := seen_at (an2 x6)
  obtain ⟨es, x7⟩ := seen_of x7
  obtain ⟨k0, k1, k2, k3, k5, hp⟩ := slot_of (fun _ => slot_is) (an1 x6)
  have ho := obj_is (sameB_eq (an1 x)) p.2 (of_decide_eq_true (an1 x2)) (not_not (an1 x5)) hp
  rw [an1 x3, not_not (an1 x4)] at ho
  have y2 := an2 x7
  have y3 := an2 y2
  have y4 := an2 y3
  have y5 := an2 y4
  exact ⟨C.1, C.2, p.1.name, p.1.qualname, p.1.ns, p.1.bases, p.1.slotNames, p.1.subclasses, p.1.collection, o.dict, k0, k1, k2, k3, k5, fun z => nsFind es.1.1 z, ho ▸ kt_get Z e, ⟨on, es.1.1, es.1.2, kt_get Z en, es.2, keys_of (an1 x7), fun _ => rfl⟩, Option.isNone_iff_eq_none.mp (an1 y2), Option.isNone_iff_eq_none.mp (an1 y3), Option.isNone_iff_eq_none.mp (an1 y4),
    fun n z hz => have w := List.all_eq_true.mp (an1 y5) z (List.mem_of_getElem? hz); ⟨Option.isNone_iff_eq_none.mp (an1 w), noObj_eq (an2 w)⟩, fun z m k hz hk => nsCls_ok Z (an2 y5) hz hk⟩
theorem clssAt_get {N : Names} {T : Tab} {t : Addr → Option Obj} {attrs : List Str} {fns : List Addr} : ∀ {l : List Value} {c i : Nat} {v : Value}, clssAt t N T attrs fns c l = true → l[i]? = some v → (T.meth (c + i) 0).isSome = true → clsAt t N T attrs fns (c + i) v = true
  | [], _, i, _, _, h, _ => by simp at h
  | w :: ws, c, i, v, x, h, hm => by
    have x := And.intro (Bool.or_eq_true _ _ |>.mp (an1 x)) (an2 x)
    cases i with
    | zero =>
      simp at h; subst h
      rcases x.1 with q | q
      · rw [Nat.add_zero, Option.isSome_iff_ne_none] at hm
        exact absurd (Option.isNone_iff_eq_none.mp q) hm
      · exact q
    | succ i =>
      have e : c + (i + 1) = c + 1 + i := by omega
      rw [e] at hm ⊢
      exact clssAt_get x.2 (by simpa using h) hm
theorem clsBase_of {cx : Cx} {N : Names} {t : Addr → Option Obj} (Z : Has cx.h₀ t) (h1 : clssAt t N cx.T cx.attrs cx.fns 0 cx.cls = true) (h2 : attrsOk N cx.attrs = true) : ClsBase cx N := by
  have a3 := of_decide_eq_true (an1 (an2 (an2 h2)))
  have get : ∀ (c : Nat) (v : Value), cx.cls[c]? = some v → (cx.T.meth c 0).isSome = true → ∃ C, v = .ref C ∧ ClsOk cx N c C := fun c v hc hm => by
    have := clssAt_get h1 hc (by rw [Nat.zero_add]; exact hm)
    rw [Nat.zero_add] at this
    exact clsAt_ok Z this
  refine ⟨fun y n h => ?_, fun i j y hi hj => ?_, by rw [sizeLine_eq]; omega, hasNo_eq (an2 (an2 (an2 h2))), fun c v hc hm => ?_, fun c C hc hm => ?_⟩
  · obtain ⟨z, hz, q⟩ := seen_at (List.all_eq_true.mp (an1 h2) (y, n) (mem_of_lookup h))
    exact hz.trans (congrArg some (of_decide_eq_true q))
  · exact nodupS_inj (an1 (an2 h2)) i j y (by rw [List.getElem?_map, hi]; rfl) (by rw [List.getElem?_map, hj]; rfl)
  · obtain ⟨C, e, _⟩ := get c v hc hm
    exact ⟨C, e⟩
  · obtain ⟨C', e, k⟩ := get c (.ref C) hc hm
    cases e; exact k
noncomputable def fragOf (t : Addr → Option Obj) : List Addr → PySem.W.Frag
  | [] => []
  | a :: as => match t a with
    | some o => (a, o) :: fragOf t as
    | none => fragOf t as
set_option tactic.hygienic true in
theorem frag_in {h : Heap} {t : Addr → Option Obj} (Z : Has h t) : ∀ as, (fragOf t as).In h
  | [] => fun a o e => by exact no_some e
  | a :: as => fun b o e => by
    have e : (match t a with | some o => (a, o) :: fragOf t as | none => fragOf t as).lookup b = some o := e
    split at e
    · rename_i o' ho
      simp only [List.lookup] at e
      split at e
      · rename_i q; cases e; rw [beq_iff_eq.mp q]; exact kt_get Z ho
      · exact frag_in Z as b o e
    · exact frag_in Z as b o e
noncomputable def clsPair (t : Addr → Option Obj) (v : Value) : List Addr := match v with
  | .ref a => (match t a with
    | some o => (match o.data with
      | .cls cd => [a, cd.ns]
      | _ => [])
    | none => [])
  | _ => []
noncomputable def nsNoInit (t : Addr → Option Obj) (a : Addr) : Bool := seen (t a) fun on => seen (dDct on.data) fun es => (es.1.1.toList.all fun e => strKey e.key) && (nsFind es.1.1 "__init__").isNone
theorem nsNoInit_ok {h : Heap} {t : Addr → Option Obj} (Z : Has h t) {a : Addr} (x : nsNoInit t a = true) : ∃ m, h.Ns a m ∧ m "__init__" = none := by
  obtain ⟨on, en, x⟩ := seen_at x
  obtain ⟨es, x⟩ := seen_of x
  exact ⟨fun z => nsFind es.1.1 z, ⟨on, es.1.1, es.1.2, kt_get Z en, es.2, keys_of (an1 x), fun _ => rfl⟩, Option.isNone_iff_eq_none.mp (an2 x)⟩
noncomputable def ownNo (t : Addr → Option Obj) (v : Value) : Bool := seen (dRef v) fun a => seen (t a.1) fun o => seen (dCls o.data) fun p => nsNoInit t p.1.ns
theorem ownNo_ok {h : Heap} {t : Addr → Option Obj} (Z : Has h t) {v : Value} {bm tl : List Value} (x : ownNo t v = true) (T : OwnTail h bm tl) : OwnTail h bm (v :: tl) := by
  obtain ⟨a, x⟩ := seen_of x
  obtain ⟨o, e, x⟩ := seen_at x
  obtain ⟨p, x⟩ := seen_of x
  obtain ⟨m, n, i⟩ := nsNoInit_ok Z x
  obtain ⟨oc, od, odata, oslots⟩ := o
  obtain ⟨p, hd⟩ := p
  dsimp only at hd
  subst hd
  exact a.2 ▸ .own (kt_get Z e) n i T
noncomputable def tailOk (t : Addr → Option Obj) : List Value → Bool
  | [] => false
  | v :: vs => decide (v :: vs = mroV) || (ownNo t v && tailOk t vs)
theorem tailOk_ok {h : Heap} {t : Addr → Option Obj} (Z : Has h t) : ∀ {vs : List Value}, tailOk t vs = true → OwnTail h mroV vs
  | [], x => by cases (show false = true from x)
  | v :: vs, x => by
    rcases (Bool.or_eq_true _ _).mp x with q | q
    · rw [of_decide_eq_true q]; exact .base
    · exact ownNo_ok Z (an1 q) (tailOk_ok Z (an2 q))
noncomputable def subsAt (T : Tab) (K : PySem.W.Frag) (C : Addr) (bm : List Value) (c : Nat) : Nat → List Value → Bool
  | _, [] => true
  | d, D :: Ds => (clsVal K D && decide (T.sub c d = (Value.ref C :: bm).contains D) && decide (PySem.W.mroIn K C D = some (T.sub c d))) && subsAt T K C bm c (d + 1) Ds
theorem subsAt_get {T : Tab} {K : PySem.W.Frag} {C : Addr} {bm : List Value} {c : Nat} : ∀ {l : List Value} {d i : Nat} {D : Value}, subsAt T K C bm c d l = true → l[i]? = some D → clsVal K D = true ∧ T.sub c (d + i) = (Value.ref C :: bm).contains D ∧ PySem.W.mroIn K C D = some (T.sub c (d + i))
  | [], _, i, _, _, h => by simp at h
  | w :: ws, d, i, D, x, h => by
    cases i with
    | zero =>
      simp at h; subst h
      have y := an1 x
      exact ⟨an1 (an1 y), of_decide_eq_true (an2 (an1 y)), of_decide_eq_true (an2 y)⟩
    | succ i =>
      have e : d + (i + 1) = d + 1 + i := by omega
      rw [e]
      exact subsAt_get (an2 x) (by simpa using h)
noncomputable def excK (K : PySem.W.Frag) (D : Addr) : Bool :=
  decide (PySem.W.findIn K (.ref D) "__getattribute__" = some (some (.builtin "BaseException.__getattribute__"))) && decide (PySem.W.findIn K (.ref D) "__getattr__" = some none) && decide (PySem.W.mroIn K D (.type "BaseException") = some true) &&
  PySem.W.hasDictIn K D && decide (PySem.W.findIn K (.ref D) "__class__" = some (some (.builtin "object.__class__"))) &&
  decide (PySem.W.specialIn K (.builtin "object.__class__") "__get__" = some (some (.builtin "getset_descriptor.__get__"))) && decide (PySem.W.takesIn K (.builtin "object.__class__") = some true) && decide (PySem.W.mroIn K D (.type "object") = some true)
theorem excK_ok {K : PySem.W.Frag} {D : Addr} (x : excK K D = true) : ExcK K D :=
  have x1 := an1 (an1 (an1 (an1 x)))
  ⟨of_decide_eq_true (an1 (an1 (an1 x1))), of_decide_eq_true (an2 (an1 (an1 x1))), of_decide_eq_true (an2 (an1 x1)), an2 x1, of_decide_eq_true (an2 (an1 (an1 (an1 x)))), of_decide_eq_true (an2 (an1 (an1 x))), of_decide_eq_true (an2 (an1 x)), of_decide_eq_true (an2 x)⟩
noncomputable def valNew (o : Option Value) : Bool := seen o fun v => sameB v (.builtin "ValueError.__new__")
noncomputable def excAt (t : Addr → Option Obj) (T : Tab) (cls : List Value) (c : Nat) (v : Value) : Bool :=
  seen (dRef v) fun C => seen (t C.1) fun o => seen (dCls o.data) fun p => sameB o.cls (.type "type") && (decide (p.1.mro = .ref C.1 :: p.1.mro.tail) && (!p.1.hasDel && ((seen (slots6 o.slots.toList) fun q => valNew q.1.2.2.2.2.1) && (nsNoInit t p.1.ns && (tailOk t p.1.mro.tail && (subsAt T (fragOf t ((cls ++ p.1.mro).flatMap (clsPair t))) C.1 p.1.mro.tail c 0 cls && excK (fragOf t ((cls ++ p.1.mro).flatMap (clsPair t))) C.1))))))
noncomputable def excsAt (t : Addr → Option Obj) (T : Tab) (cls : List Value) : Nat → List Value → Bool
  | _, [] => true
  | c, v :: vs => (!T.isExc c || excAt t T cls c v) && excsAt t T cls (c + 1) vs
noncomputable def excsOk (t : Addr → Option Obj) (T : Tab) (cls : List Value) : Bool := excsAt t T cls 0 cls && decide (T.subs.length ≤ cls.length)
theorem excAt_ok {cx : Cx} {t : Addr → Option Obj} (Z : Has cx.h₀ t) {c : Nat} {v : Value} (x : excAt t cx.T cx.cls c v = true) : ∃ C, v = .ref C ∧ ExcOk cx c C := by
  obtain ⟨C, x⟩ := seen_of x
  obtain ⟨o, e, x⟩ := seen_at x
  obtain ⟨p, x⟩ := seen_of x
  have x2 := an2 x
  have x3 := an2 x2
  have x4 := an2 x3
  have x5 := an2 x4
  have x6 := an2 x5
  obtain ⟨m, n, i⟩ := nsNoInit_ok Z (an1 x5)
  obtain ⟨k0, k1, k2, k3, k5, hp⟩ := slot_of (fun _ => slot_is) (an1 x4)
  have ho := obj_is (sameB_eq (an1 x)) p.2 (of_decide_eq_true (an1 x2)) (not_not (an1 x3)) hp
  have x7 := an1 (an2 x6)
  refine ⟨C.1, C.2, ⟨p.1.name, p.1.qualname, p.1.ns, p.1.bases, p.1.mro.tail, p.1.hasDict, p.1.slotNames, p.1.subclasses, p.1.abstract, p.1.collection, o.dict, k0, k1, k2, k3, k5, m, ho ▸ kt_get Z e, n, i, tailOk_ok Z (an1 x6), fun d D hD => ?_⟩, ⟨_, frag_in Z _, excK_ok (an2 (an2 x6)), fun d D hD => ?_⟩⟩
  · have := (subsAt_get x7 hD).2.1
    rwa [Nat.zero_add] at this
  · have := subsAt_get x7 hD
    rw [Nat.zero_add] at this
    exact ⟨this.1, this.2.2⟩
theorem excsAt_get {t : Addr → Option Obj} {T : Tab} {cls : List Value} : ∀ {l : List Value} {c i : Nat} {v : Value}, excsAt t T cls c l = true → l[i]? = some v → T.isExc (c + i) = true → excAt t T cls (c + i) v = true
  | [], _, i, _, _, h, _ => by simp at h
  | w :: ws, c, i, v, x, h, hm => by
    cases i with
    | zero =>
      simp at h; subst h
      rcases (Bool.or_eq_true _ _).mp (an1 x) with q | q
      · have hm : T.isExc c = true := hm
        rw [hm] at q; exact no_true q
      · exact q
    | succ i =>
      have e : c + (i + 1) = c + 1 + i := by omega
      rw [e] at hm ⊢
      exact excsAt_get (an2 x) (by simpa using h) hm
theorem isExc_lt {T : Tab} {c : Nat} (h : T.isExc c = true) : c < T.subs.length := by
  have h : 2 ≤ ((T.subs[c]?).getD []).length := of_decide_eq_true (an2 h)
  cases q : T.subs[c]? with
  | none => rw [q] at h; cases (show 2 ≤ 0 from h)
  | some l => exact (List.getElem?_eq_some_iff.mp q).1
theorem excs_base {cx : Cx} {t : Addr → Option Obj} (Z : Has cx.h₀ t) (x : excsOk t cx.T cx.cls = true) (c : Nat) (h : cx.T.isExc c = true) : ∃ C, cx.cls[c]? = some (.ref C) ∧ ExcOk cx c C := by
  have lt : c < cx.cls.length := Nat.lt_of_lt_of_le (isExc_lt h) (of_decide_eq_true (an2 x))
  have e := List.getElem?_eq_getElem lt
  have y := excsAt_get (an1 x) e (by rw [Nat.zero_add]; exact h)
  rw [Nat.zero_add] at y
  obtain ⟨C, q, k⟩ := excAt_ok Z y
  exact ⟨C, by rw [e, q], k⟩
theorem lookup_all {α : Type} {l : List (Str × α)} {p : Str × α → Bool} (h : l.all p = true) {x : Str} {k : α} (e : l.lookup x = some k) : p (x, k) = true := List.all_eq_true.mp h _ (mem_of_lookup e)
theorem slot_eq {o : Option Value} {v : Value} (x : (seen o fun w => sameB v w) = true) : o = some v := by
  obtain ⟨w, e, x⟩ := seen_at x
  exact e.trans (congrArg some (sameB_eq x).symm)
theorem base_of {cx : Cx} {N : Names} {t : Addr → Option Obj} {nss : List (List Str)} {mg mb : Str → Option Value} (Z : Has cx.h₀ t) (g : cx.h₀.Ns mainGlobals mg) (b : cx.h₀.Ns builtinsNs mb) (hb : ∀ x : Str, x ≠ "__name__" → mb x = bootBuiltins x) (lim : cx.h₀.NoLimit)
    (ok : headOk t N cx.T cx.cls cx.fns nss = true) (okc : clssAt t N cx.T cx.attrs cx.fns 0 cx.cls = true) (oka : attrsOk N cx.attrs = true) (okx : excsOk t cx.T cx.cls = true) : Base cx N ∧ ∀ (f : Nat) (a : Addr), cx.fns[f]? = some a → ∃ g, cx.T.funs[f]? = some g := by
  obtain ⟨hlen, hfn⟩ := fnsAt_get (an2 ok)
  obtain ⟨o, e, ok⟩ := seen_at (an1 ok)
  obtain ⟨es, ok⟩ := seen_of ok
  have hmg : ∀ x, mg x = nsFind es.1.1 x := by
    refine hideG fun G kG => ?_
    obtain ⟨o', es', ep', e', d', _, h'⟩ := g
    refine kG ?_
    cases (kt_get Z e).symm.trans e'
    cases es.2.symm.trans d'
    exact fun x => (h' x).symm
  have c2 := an2 ok
  have c3 := an2 c2
  refine ⟨⟨⟨mg, mb, g, b, fun x k h => ?_, fun x k h => ?_, fun x c h => ?_, fun p hp => ?_⟩, lim, fun k a f h1 h2 => ?_, clsBase_of Z okc oka, excs_base Z okx⟩, fun f a h => ?_⟩
  · obtain ⟨a, e, q⟩ := seen_at (lookup_all (an1 ok) h)
    exact ⟨a, e, (hmg x).trans (slot_eq q)⟩
  · obtain ⟨m, e, q⟩ := seen_at (lookup_all (an1 c2) h)
    obtain ⟨v, e', q⟩ := seen_at q
    exact ⟨m, v, e, (hmg x).trans e', fun ρ h => litOk_vr q⟩
  · obtain ⟨c', e, q⟩ := seen_at (lookup_all (an1 c3) h)
    refine ⟨c', e, ((Bool.or_eq_true _ _).mp q).imp (fun q => (hmg x).trans (slot_eq q)) fun q => ⟨(hmg x).trans (Option.isNone_iff_eq_none.mp (an1 q)), ?_⟩⟩
    obtain ⟨v, e', q⟩ := seen_at (an2 q)
    exact (hb _ (of_decide_eq_false (not_not (an2 q)))).trans (e'.trans (congrArg some (sameB_eq (an1 q)).symm))
  · have q := List.all_eq_true.mp (an2 c3) p hp
    exact ⟨(hmg _).trans (Option.isNone_iff_eq_none.mp (an1 q)), (hb _ (of_decide_eq_false (not_not (an1 (an2 q))))).trans (slot_eq (an2 (an2 q)))⟩
  · obtain ⟨ns, h⟩ := hfn k a f h1 h2
    exact fnAt_ok Z h
  · exact ⟨_, List.getElem?_eq_getElem (hlen ▸ (List.getElem?_eq_some_iff.mp h).1)⟩
theorem ns_same {h : Heap} {a : Addr} {m m' : Str → Option Value} (x : h.Ns a m) (y : h.Ns a m') (n : Str) : m n = m' n := by
  refine hideG fun G kG => ?_
  obtain ⟨o, es, ep, e, d, _, f⟩ := x
  obtain ⟨o', es', ep', e', d', _, f'⟩ := y
  refine kG ?_
  rw [e] at e'; cases e'
  rw [d] at d'; cases d'
  rw [← f n, f' n]
theorem vrs_script {cx : Cx} {ρ : Rho} {h : Heap} {vs : List Value} {ns : List Int} (x : PyProof.Rows.IntsAre vs ns) : VRs cx ρ h (ns.map .int) vs := by
  induction x with
  | nil => exact .nil
  | cons n tk r ih => exact .cons (.int n tk) ih
theorem finish {prog : Program} {w : World} {N : Names} {t : Addr → Option Obj} {T : Tab} {cls : List Value} {attrs : List Str} {fns : List Addr} {nss : List (List Str)} {s₁ : Shared} {mg mb : Str → Option Value} {ns : List Int} {vs : List Value} {fa a : Addr} {k d : Nat} {Q : Value → Shared → Prop} {E : Value → Shared → Prop}
    (Z : Has s₁.heap t) (g : s₁.heap.Ns mainGlobals mg) (b : s₁.heap.Ns builtinsNs mb) (hb : ∀ x : Str, x ≠ "__name__" → mb x = bootBuiltins x) (lim : s₁.heap.NoLimit) (ok : headOk t N T cls fns nss = true) (okc : clssAt t N T attrs fns 0 cls = true) (oka : attrsOk N attrs = true) (okx : excsOk t T cls = true) (hsys : (t sysModules).isSome = true)
    (hobj : s₁.heap.get? a = some (listO vs 0)) (hI : PyProof.Rows.IntsAre vs ns) (hlen : ns.length ≤ 63) (hf : mg "law" = some (.ref fa)) (hk : N.funs.lookup ("law" : Str) = some k) (room : Room callerA d)
    (hlaw : ∃ H', callF T d k [.script ns] [] = .ok (.bool true) H')
    (kq : ∀ s', (∀ b o, s₁.heap.get? b = some o → s'.heap.get? b = some o) → s'.os = s₁.os → s'.gens = s₁.gens → Q (.bool true) s') :
    wpAny (model prog w) callerA (call (.ref fa) [.ref a]) Q E s₁ := by
  refine hideG fun G kG => ?_
  obtain ⟨B, defs⟩ := base_of (cx := ⟨prog, w, T, s₁, cls, attrs, fns⟩) (N := N) (nss := nss) Z g b hb lim ok okc oka okx
  obtain ⟨mg', mb', g', b', q, _⟩ := B.ns
  obtain ⟨a', ha', hx⟩ := q "law" k hk
  refine kG ?_
  have e : fa = a' := by
    have := ns_same g g' "law"
    rw [hf, hx] at this
    cases this; rfl
  subst e
  obtain ⟨o1, e1⟩ := Option.isSome_iff_exists.mp hsys
  have R : Rel ⟨prog, w, T, s₁, cls, attrs, fns⟩ [] [] s₁ :=
    ⟨rfl, fun l o p h _ => by simp at h, fun i j p q _ h _ => by simp at h, fun p hp => by simp at hp, fun _ _ e => e, ⟨o1, kt_get Z e1⟩, ⟨s₁.heap, s₁.toks, rfl⟩⟩
  obtain ⟨H', hH⟩ := hlaw
  have x := funs_ok B defs d k fa [.script ns] [.ref a] callerA [] ha' room.toF rfl [] [] s₁ R ⟨.cons (.script hobj (by rw [sizeLine_eq]; omega) (vrs_script hI)) .nil, fun en he => by cases he⟩
  change SimAt _ callerA (callF T d k [.script ns] []) _ _ _ _ at x
  rw [hH] at x
  refine wpAny_mono x (fun v s' ⟨ρ', F, R', vr⟩ => ?_) fun _ _ q => q.elim
  have vr' : VR ⟨prog, w, T, s₁, cls, attrs, fns⟩ ρ' s'.heap (.bool true) v := vr
  cases vr'
  obtain ⟨h, tk, e⟩ := R'.rest
  exact kq s' R'.base (by rw [e]) (by rw [e])
end Mine
-- part MTop
namespace Mine
open PySem PySem.W PySem.Calls
noncomputable def topRunT (tb : String → Option Builtin) (p : Program) (w : World) (n₀ : Nat) (ann : Option Value) : Nat → SharedT → Thread → Option SharedT
  | 0, _, _ => none
  | n + 1, s, t => match through t with
    | true => some s
    | false => match stepOk n₀ ann t with
      | false => none
      | true => match stepT (denote tb) p w s t with
        | some (s', t') => topRunT tb p w n₀ ann n s' t'
        | none => none
theorem topRunT_succ {tb : String → Option Builtin} {p : Program} {w : World} {n₀ : Nat} {ann : Option Value} {n : Nat} {s : SharedT} {t : Thread} : topRunT tb p w n₀ ann (n + 1) s t = (match through t with
    | true => some s
    | false => match stepOk n₀ ann t with
      | false => none
      | true => match stepT (denote tb) p w s t with
        | some (s', t') => topRunT tb p w n₀ ann n s' t'
        | none => none) := rfl
theorem topRun_ofT {tb : String → Option Builtin} {p : Program} {w : World} {n₀ : Nat} {ann : Option Value} : ∀ {n : Nat} {s s' : SharedT} {t : Thread}, topRunT tb p w n₀ ann n s t = some s' → topRun tb p w n₀ ann n s.abs t = some s'.abs
  | 0, _, _, _, h => by cases h
  | n + 1, s, s', t, h => by
    rw [topRunT_succ] at h
    unfold topRun
    cases ht : through t with
    | true => rw [ht] at h; cases h; rfl
    | false =>
      rw [ht] at h
      cases hk : stepOk n₀ ann t with
      | false => rw [hk] at h; cases h
      | true =>
        rw [hk] at h
        cases hs : stepT (denote tb) p w s t with
        | none => rw [hs] at h; exact nomatch h
        | some r => obtain ⟨s₂, t₂⟩ := r; rw [hs] at h; rw [stepT_spec hs]; exact topRun_ofT h
noncomputable def topRunQ (p : Program) (w : World) (n₀ : Nat) (ann : Option Value) (n : Nat) : SharedT → Thread → Option SharedT :=
  @Nat.rec (fun _ => SharedT → Thread → Option SharedT) (fun _ _ => none) (fun _ ih s t => @Bool.rec (fun _ => Option SharedT)
    (@Bool.rec (fun _ => Option SharedT) none (@Option.rec (SharedT × Thread) (fun _ => Option SharedT) none (fun r => ih r.1 r.2) (PySem.W.Fast.tw10156331382660048174 (PySem.W.Fast.tw11892475500146522536 treeTable) p w s t)) (PySem.W.Fast.tw6613529449190102663 n₀ ann t)) (some s) (through t)) n
theorem topRunQ_eq {p : Program} {w : World} {n₀ : Nat} {ann : Option Value} : ∀ (n : Nat) (s : SharedT) (t : Thread), topRunQ p w n₀ ann n s t = topRunT treeTable p w n₀ ann n s t
  | 0, _, _ => rfl
  | n + 1, s, t => by
    show @Bool.rec (fun _ => Option SharedT) (@Bool.rec (fun _ => Option SharedT) none (@Option.rec (SharedT × Thread) (fun _ => Option SharedT) none (fun r => topRunQ p w n₀ ann n r.1 r.2) (PySem.W.Fast.tw10156331382660048174 (PySem.W.Fast.tw11892475500146522536 treeTable) p w s t)) (PySem.W.Fast.tw6613529449190102663 n₀ ann t)) (some s) (through t) = _
    rw [← PySem.W.Fast.te10156331382660048174, ← PySem.W.Fast.te11892475500146522536, ← PySem.W.Fast.te6613529449190102663]
    rw [topRunT_succ]
    cases through t with
    | true => rfl
    | false =>
      cases stepOk n₀ ann t with
      | false => rfl
      | true =>
        cases hs : stepT (denote treeTable) p w s t with
        | none => rfl
        | some r => obtain ⟨s₂, t₂⟩ := r; exact topRunQ_eq n s₂ t₂
noncomputable def bootT (P : Params) : BT := ((boot_heap P).objs.toList.foldl (fun (x : BT × Nat) o => (x.1.ins x.2 o, x.2 + 1)) (.nil, 0)).1
noncomputable def bootS (w : World) (os : OsState) : SharedT := ⟨bootT w.params, (boot_heap w.params).objs.size, (boot_heap w.params).life, #[], boot_drawn, boot_toks, os⟩
theorem boot_size (w : World) : ((boot_heap w.params).isNs mainGlobals && (#[] : Array GenState).size == 0, (boot_heap w.params).objs.size, (boot_heap w.params).nsMap mainGlobals "__annotations__") = (true, 11, some (.ref 6)) := by kernel_rfl
theorem bootS_abs (w : World) (os : OsState) : (bootS w os).abs = ⟨boot_heap w.params, #[], boot_drawn, boot_toks, os⟩ := by kernel_rfl
theorem left_of {p q : Program} {loose : List Str} {Xt : Shared → Bool} {α : Type} {Yf : Shared → α} {Ya : World → α} {N M : Nat} {g0 : Bool}
    (e : opening p = plainProg p.main.scope.names) (hN : Nat.ble 600 N = true) (f : ∀ s, fenceModules? p s = some s) (le : Nat.ble M N = true)
    (run : ∀ (w : World) (os : OsState), (topRunQ p w 11 (some (.ref 6)) M (bootS w os) (topStub p)).map (fun s => (staticsOk (importedModules p.main.body) (boot_heap w.params) s.abs.heap && namesBound p s.abs.heap && gensDone s.abs && laidKept (boot_heap w.params) s.abs.heap,
      openSeen q loose (importedModules p.main.body) Xt g0 s.abs, Yf s.abs)) = some (true, openGood q loose, Ya w)) : LeftO p q loose Xt Yf Ya N g0 := fun w => by
  obtain ⟨⟨h, gs, d, k, os⟩, e1, e'⟩ := Option.map_eq_some_iff.mp (boot_open e hN f w)
  obtain ⟨rfl, rfl, rfl, rfl⟩ : h = boot_heap w.params ∧ gs = #[] ∧ d = boot_drawn ∧ k = boot_toks := by simpa using e'
  obtain ⟨z1, z2, z3⟩ : _ ∧ _ ∧ _ := by simpa only [Prod.mk.injEq] using boot_size w
  obtain ⟨s, h1, h2⟩ := Option.map_eq_some_iff.mp (run w os)
  obtain ⟨l1, l2, l3⟩ : _ ∧ _ ∧ _ := by simpa only [Prod.mk.injEq] using h2
  rw [topRunQ_eq] at h1
  have r := topRun_ofT h1
  rw [bootS_abs] at r
  replace r := topRun_mono (N - M) _ _ _ _ r
  rw [show M + (N - M) = N by have := Nat.le_of_ble_eq_true le; omega] at r
  have t : topFrom treeTable p w N ⟨boot_heap w.params, #[], boot_drawn, boot_toks, os⟩ = some s.abs := by
    unfold topFrom
    dsimp only
    rw [z1, z2, z3, r]
    show (match staticsOk (importedModules p.main.body) (boot_heap w.params) s.abs.heap && namesBound p s.abs.heap && gensDone s.abs && laidKept (boot_heap w.params) s.abs.heap with | true => _ | false => _) = _
    rw [l1]
  unfold openEnds
  rw [e1]
  show (topFrom treeTable p w N _).map _ = _
  rw [t]
  exact congrArg some (Prod.ext l2 l3)
end Mine
-- part LB
namespace Mine.Pure
open PySem
section
variable {α β : Type} {m : M α} {f : α → M β} {H H' : Hp} {a : α} {T : Tab} {Φ : Funs} {Γ : Env'}
theorem fcn {α : Type} {p : α → Prop} : ∀ x ∈ ([] : List α), p x := fun _ h => nomatch h
theorem fc {α : Type} {p : α → Prop} {a : α} {l : List α} (h : p a) (k : ∀ x ∈ l, p x) : ∀ x ∈ a :: l, p x := List.forall_mem_cons.mpr ⟨h, k⟩
theorem ret_at (a : α) (H : Hp) : M.ret a H = .ok a H := rfl
theorem look_at (f : Hp → Option α) (H : Hp) : M.look f H = (match f H with | some a => .ok a H | none => .bad) := rfl
theorem bf_len_script (ns : List Int) : bfV .len [.script ns] = M.ret (.int ns.length) := by
  funext H
  show (match (some (Val.int (ns.map Val.int).length) : Option Val) with | some a => Res.ok a H | none => .bad) = _
  rw [List.length_map]; rfl
theorem bf_len_loc {l : Nat} {xs : List Val} {H : Hp} (h : H[l]? = some (.list xs)) : bfV .len [.loc l] H = .ok (.int xs.length) H := by
  have e : bfV .len [.loc l] = M.look (fun H => (itemsOf (.loc l) H).map fun xs => Val.int xs.length) := rfl
  rw [e, look_at]
  rw [items_of h]; rfl
theorem add_int (x y : Int) : binV .add (.int x) (.int y) = M.ret (.int (x + y)) := rfl
theorem sub_int (x y : Int) : binV .sub (.int x) (.int y) = M.ret (.int (x - y)) := rfl
theorem sub_script {ns : List Int} {k : Nat} {v : Int} (h : ns[k]? = some v) : subV (.script ns) (.int k) = M.ret (.int v) := by
  have lt := (List.getElem?_eq_some_iff.mp h).1
  funext H
  have e : subV (.script ns) (.int k) = M.look (fun _ => (placeOf (k : Int) ns.length).bind fun p => (ns[p]?).map Val.int) := rfl
  have : placeOf (k : Int) ns.length = some k := by
    unfold placeOf
    rw [if_pos (by omega), if_pos (by omega)]; rfl
  rw [e, look_at, this]
  simp only [Option.bind_some, h, Option.map_some, ret_at]
theorem sub_tup {xs : List Val} {k : Nat} {v : Val} (h : xs[k]? = some v) : subV (.tup xs) (.int k) = M.ret v := by
  funext H
  have e : subV (.tup xs) (.int k) = M.look (fun _ => if 0 ≤ (k : Int) then xs[(k : Int).toNat]? else none) := rfl
  rw [e, look_at]
  simp only [if_pos (show 0 ≤ (k : Int) by omega), Int.toNat_natCast, h, ret_at]
theorem call_at {d k : Nat} {g : MFun} {args : List Val} (h : T.funs[k]? = some g) (ha : args.length = g.arity) :
    callF T (d + 1) k args H = resOf (execSs T (callF T d) g.body (args.map some ++ List.replicate g.nvars none) H) := by
  rw [callF, h]
  show runF T (callF T d) g args H = _
  unfold runF
  rw [if_pos ha]
end
end Mine.Pure
-- part LW
namespace Mine.Pure
open PySem
noncomputable def Wp {α : Type} (m : M α) (H : Hp) (Q : α → Hp → Prop) (E : Nat → Hp → Prop) : Prop :=
  match m H with
  | .ok a H' => Q a H'
  | .exc c H' => E c H'
  | .bad => False
noncomputable def WpS (r : ResS) (Q : Env' → Hp → Prop) (R : Val → Hp → Prop) (E : Nat → Env' → Hp → Prop) : Prop :=
  match r with
  | .next Γ H => Q Γ H
  | .ret v H => R v H
  | .exc c Γ H => E c Γ H
  | .bad => False
noncomputable def getV : Env' → Nat → (Val → Prop) → Prop
  | [], _, _ => False
  | some v :: _, 0, k => k v
  | none :: _, 0, _ => False
  | _ :: Γ, n + 1, k => getV Γ n k
noncomputable def asBool : Val → (Bool → Prop) → Prop
  | .bool b, k => k b
  | _, _ => False
noncomputable def getO {α : Type} : Option α → (α → Prop) → Prop
  | some a, k => k a
  | none, _ => False
noncomputable def brB : Bool → Prop → Prop → Prop
  | true, a, _ => a
  | false, _, b => b
noncomputable def NoE : Nat → Hp → Prop := fun _ _ => False
noncomputable def NoX : Nat → Env' → Hp → Prop := fun _ _ _ => False
noncomputable def wpBin (op : BOp) (a b : Val) (H : Hp) (Q : Val → Hp → Prop) (E : Nat → Hp → Prop) : Prop :=
  match a, b with
  | .int x, .int y => (match op with
    | .add => Q (.int (x + y)) H
    | .sub => Q (.int (x - y)) H
    | .mul => (small x || small y) = true ∧ Q (.int (x * y)) H
    | .fdiv => ¬ (y = 0 ∨ 1073741824 ≤ y.natAbs) ∧ Q (.int (Int.fdiv x y)) H
    | .mod => ¬ (y = 0) ∧ Q (.int (Int.fmod x y)) H)
  | a, b => Wp (binV op a b) H Q E
mutual
noncomputable def wpE (T : Tab) (Φ : Funs) : ME → Env' → Hp → (Val → Hp → Prop) → (Nat → Hp → Prop) → Prop
  | .none, _, H, Q, _ => Q .none H
  | .bool b, _, H, Q, _ => Q (.bool b) H
  | .int i, _, H, Q, _ => Q (.int i) H
  | .str s, _, H, Q, _ => Q (.str s) H
  | .glob k, _, H, Q, _ => getO T.globs[k]? fun v => Q v H
  | .var i, Γ, H, Q, _ => getV Γ i fun v => Q v H
  | .bin op a b, Γ, H, Q, E => wpE T Φ a Γ H (fun x H => wpE T Φ b Γ H (fun y H => wpBin op x y H Q E) E) E
  | .neg a, Γ, H, Q, E => Wp (evalE T Φ (.neg a) Γ) H Q E
  | .not a, Γ, H, Q, E => wpE T Φ a Γ H (fun x H => asBool x fun b => Q (.bool (!b)) H) E
  | .and a b, Γ, H, Q, E => wpE T Φ a Γ H (fun x H => asBool x fun t => brB t (wpE T Φ b Γ H Q E) (Q (.bool false) H)) E
  | .or a b, Γ, H, Q, E => wpE T Φ a Γ H (fun x H => asBool x fun t => brB t (Q (.bool true) H) (wpE T Φ b Γ H Q E)) E
  | .cmp op a b, Γ, H, Q, E => wpE T Φ a Γ H (fun x H => wpE T Φ b Γ H (fun y H => getO (cmpV op x y H) fun r => Q (.bool r) H) E) E
  | .cmp2 op1 op2 a b c, Γ, H, Q, E => wpE T Φ a Γ H (fun x H => wpE T Φ b Γ H (fun y H => getO (cmpV op1 x y H) fun r => brB r (wpE T Φ c Γ H (fun z H => getO (cmpV op2 y z H) fun r => Q (.bool r) H) E) (Q (.bool false) H)) E) E
  | .sub a i, Γ, H, Q, E => wpE T Φ a Γ H (fun x H => wpE T Φ i Γ H (fun y H => Wp (subV x y) H Q E) E) E
  | .slice a lo hi, Γ, H, Q, E => wpE T Φ a Γ H (fun x H => wpO T Φ lo Γ H (fun l H => wpO T Φ hi Γ H (fun h H => Wp (sliceV x l h) H Q E) E) E) E
  | .tup es, Γ, H, Q, E => wpEs T Φ es Γ H (fun vs H => Q (.tup vs) H) E
  | .list es, Γ, H, Q, E => wpEs T Φ es Γ H (fun vs H => Q (.loc H.length) (H ++ [.list vs])) E
  | .dict, _, H, Q, _ => Q (.loc H.length) (H ++ [.dict []])
  | .attr a n, Γ, H, Q, E => wpE T Φ a Γ H (fun x H => Wp (attrV x n) H Q E) E
  | .call f es, Γ, H, Q, E => wpEs T Φ es Γ H (fun vs H => Wp (Φ f vs) H Q E) E
  | .new c es, Γ, H, Q, E => getO (T.meth c 0) (fun _ => wpEs T Φ es Γ H (fun vs H => Wp (newV T Φ c vs) H Q E) E)
  | .umeth a m es, Γ, H, Q, E => wpE T Φ a Γ H (fun o H => Wp (umethOf T o m) H (fun k H => wpEs T Φ es Γ H (fun vs H => Wp (Φ k (o :: vs)) H Q E) E) E) E
  | .bf f es, Γ, H, Q, E => wpEs T Φ es Γ H (fun vs H => Wp (bfV f vs) H Q E) E
  | .bm a m es, Γ, H, Q, E => wpE T Φ a Γ H (fun o H => getO (bmFits m o H) fun _ => wpEs T Φ es Γ H (fun vs H => Wp (bmV m o vs) H Q E) E) E
  | .isinst a t, Γ, H, Q, E => wpE T Φ a Γ H (fun x H => Wp (isinstV T x t) H Q E) E
  | .comp elt it cond, Γ, H, Q, E => Wp (evalE T Φ (.comp elt it cond) Γ) H Q E
noncomputable def wpO (T : Tab) (Φ : Funs) : MEo → Env' → Hp → (Val → Hp → Prop) → (Nat → Hp → Prop) → Prop
  | .none, _, H, Q, _ => Q .none H
  | .some e, Γ, H, Q, E => wpE T Φ e Γ H Q E
noncomputable def wpEs (T : Tab) (Φ : Funs) : MEs → Env' → Hp → (List Val → Hp → Prop) → (Nat → Hp → Prop) → Prop
  | .nil, _, H, Q, _ => Q [] H
  | .cons e es, Γ, H, Q, E => wpE T Φ e Γ H (fun v H => wpEs T Φ es Γ H (fun vs H => Q (v :: vs) H) E) E
end
mutual
noncomputable def wpS (T : Tab) (Φ : Funs) : MS → Env' → Hp → (Env' → Hp → Prop) → (Val → Hp → Prop) → (Nat → Env' → Hp → Prop) → Prop
  | .expr e, Γ, H, Q, _, E => wpE T Φ e Γ H (fun _ H => Q Γ H) fun c H => E c Γ H
  | .assign i e, Γ, H, Q, _, E => wpE T Φ e Γ H (fun v H => Q (Γ.set i (some v)) H) fun c H => E c Γ H
  | .setattr o n e, Γ, H, Q, _, E => wpE T Φ e Γ H (fun v H => wpE T Φ o Γ H (fun o H => Wp (setattrV o n v) H (fun _ H => Q Γ H) fun c H => E c Γ H) fun c H => E c Γ H) fun c H => E c Γ H
  | .setitem o i e, Γ, H, Q, _, E => wpE T Φ e Γ H (fun v H => wpE T Φ o Γ H (fun o H => wpE T Φ i Γ H (fun i H => Wp (setitemV o i v) H (fun _ H => Q Γ H) fun c H => E c Γ H) fun c H => E c Γ H) fun c H => E c Γ H) fun c H => E c Γ H
  | .ret e, Γ, H, _, R, E => wpO T Φ e Γ H R fun c H => E c Γ H
  | .ite c t f, Γ, H, Q, R, E => wpE T Φ c Γ H (fun v H => asBool v fun b => brB b (wpSs T Φ t Γ H Q R E) (wpSs T Φ f Γ H Q R E)) fun c H => E c Γ H
  | .raise c _, Γ, H, _, _, E => T.isExc c = true ∧ E c Γ H
  | .each i a b, Γ, H, Q, R, E => WpS (execS T Φ (.each i a b) Γ H) Q R E
  | .eachEnum i j a b, Γ, H, Q, R, E => WpS (execS T Φ (.eachEnum i j a b) Γ H) Q R E
  | .tryx a b, Γ, H, Q, R, E => WpS (execS T Φ (.tryx a b) Γ H) Q R E
noncomputable def wpSs (T : Tab) (Φ : Funs) : MSs → Env' → Hp → (Env' → Hp → Prop) → (Val → Hp → Prop) → (Nat → Env' → Hp → Prop) → Prop
  | .nil, Γ, H, Q, _, _ => Q Γ H
  | .cons s ss, Γ, H, Q, R, E => wpS T Φ s Γ H (fun Γ H => wpSs T Φ ss Γ H Q R E) R E
end
section
variable {α β : Type} {T : Tab} {Φ : Funs} {Γ : Env'} {H : Hp}
variable {Q : Val → Hp → Prop} {E : Nat → Hp → Prop} {QS : Env' → Hp → Prop} {R : Val → Hp → Prop} {ES : Nat → Env' → Hp → Prop}
theorem wp_ret {Q : α → Hp → Prop} (a : α) : Wp (M.ret a) H Q E = Q a H := rfl
theorem wp_bnd {Q : β → Hp → Prop} (m : M α) (f : α → M β) : Wp (m.bnd f) H Q E = Wp m H (fun a H' => Wp (f a) H' Q E) E := by
  unfold Wp M.bnd
  cases m H <;> rfl
theorem wp_alloc (o : HObj) : Wp (M.alloc o) H Q E = Q (.loc H.length) (H ++ [o]) := rfl
theorem Wp.mono {Q Q' : α → Hp → Prop} {E' : Nat → Hp → Prop} {m : M α} (h : Wp m H Q E) (hq : ∀ a H', Q a H' → Q' a H') (he : ∀ c H', E c H' → E' c H') : Wp m H Q' E' := by
  unfold Wp at h ⊢
  cases hm : m H with
  | ok a H' => rw [hm] at h; exact hq _ _ h
  | exc c H' => rw [hm] at h; exact he _ _ h
  | bad => rw [hm] at h; exact h
theorem Wp.then {Q Q' : α → Hp → Prop} {m : M α} (h : Wp m H Q NoE) (hq : ∀ a H', Q a H' → Q' a H') : Wp m H Q' E :=
  h.mono hq (fun _ _ f => f.elim)
theorem Wp.of_eq {Q : α → Hp → Prop} {m : M α} {a : α} {H' : Hp} (h : m H = .ok a H') (q : Q a H') : Wp m H Q E := by
  unfold Wp; rw [h]; exact q
theorem Wp.get {Q : α → Hp → Prop} {m : M α} (h : Wp m H Q NoE) : ∃ a H', m H = .ok a H' ∧ Q a H' := by
  unfold Wp at h
  cases hm : m H with
  | ok a H' => rw [hm] at h; exact ⟨a, H', rfl, h⟩
  | exc c H' => rw [hm] at h; exact h.elim
  | bad => rw [hm] at h; exact h.elim
theorem WpS.mono {r : ResS} {Q' : Env' → Hp → Prop} {R' : Val → Hp → Prop} {E' : Nat → Env' → Hp → Prop} (h : WpS r QS R ES) (hq : ∀ Γ H', QS Γ H' → Q' Γ H') (hr : ∀ v H', R v H' → R' v H') (he : ∀ c Γ H', ES c Γ H' → E' c Γ H') : WpS r Q' R' E' := by
  cases r with
  | next Γ H => exact hq _ _ h
  | ret v H => exact hr _ _ h
  | exc c Γ H => exact he _ _ _ h
  | bad => exact h
theorem wps_bnd (m : M α) (Γ : Env') (f : α → Hp → ResS) : WpS (bndS m Γ f H) QS R ES = Wp m H (fun a H' => WpS (f a H') QS R ES) (fun c H' => ES c Γ H') := by
  unfold Wp bndS
  cases m H <;> rfl
theorem wps_then (r : ResS) (f : Env' → Hp → ResS) : WpS (thenS r f) QS R ES = WpS r (fun Γ H => WpS (f Γ H) QS R ES) R ES := by
  cases r <;> rfl
theorem wp_opt {Q : α → Hp → Prop} (o : Option α) : Wp (M.ofOpt o) H Q E = getO o (fun v => Q v H) := by cases o <;> rfl
theorem wp_look {Q : α → Hp → Prop} (f : Hp → Option α) : Wp (M.look f) H Q E = getO (f H) (fun v => Q v H) := by
  unfold Wp M.look
  cases f H <;> rfl
theorem getV_get : ∀ (Γ : Env') (i : Nat) (k : Val → Prop), getV Γ i k = getO (match Γ[i]? with | some (some v) => some v | _ => none) k
  | [], i, k => by cases i <;> rfl
  | some v :: Γ, 0, k => rfl
  | none :: Γ, 0, k => rfl
  | o :: Γ, i + 1, k => by
    have : getV (o :: Γ) (i + 1) k = getV Γ i k := by cases o <;> rfl
    rw [this, getV_get Γ i k, List.getElem?_cons_succ]
theorem getV_zero (v : Val) (Γ : Env') (k : Val → Prop) : getV (some v :: Γ) 0 k = k v := rfl
theorem getV_succ (o : Option Val) (Γ : Env') (n : Nat) (k : Val → Prop) : getV (o :: Γ) (n + 1) k = getV Γ n k := by cases o <;> rfl
theorem getV_s (v : Val) (Γ : Env') (n : Nat) (k : Val → Prop) : getV (some v :: Γ) (n + 1) k = getV Γ n k := rfl
theorem getV_n (Γ : Env') (n : Nat) (k : Val → Prop) : getV (none :: Γ) (n + 1) k = getV Γ n k := rfl
theorem asBool_bool (b : Bool) (k : Bool → Prop) : asBool (.bool b) k = k b := rfl
theorem getO_some {α : Type} (a : α) (k : α → Prop) : getO (some a) k = k a := rfl
theorem getO_of {α : Type} {o : Option α} {a : α} (h : o = some a) (k : α → Prop) : getO o k = k a := by rw [h]; rfl
theorem brB_true (A B : Prop) : brB true A B = A := rfl
theorem brB_false (A B : Prop) : brB false A B = B := rfl
theorem brB_not (b : Bool) (A B : Prop) : brB (!b) A B = brB b B A := by cases b <;> rfl
theorem brB_pos {p : Prop} [Decidable p] (h : p) (A B : Prop) : brB (decide p) A B = A := by rw [decide_eq_true h]; rfl
theorem brB_neg {p : Prop} [Decidable p] (h : ¬ p) (A B : Prop) : brB (decide p) A B = B := by rw [decide_eq_false h]; rfl
theorem brB_cases {b : Bool} {A B : Prop} (h1 : b = true → A) (h2 : b = false → B) : brB b A B := by
  cases b
  · exact h2 rfl
  · exact h1 rfl
theorem wp_truth {Q : Bool → Hp → Prop} (v : Val) : Wp (truth v) H Q E = asBool v (fun b => Q b H) := by cases v <;> rfl
theorem asBool_br (x : Val) (A B : Prop) (f : Bool → Prop) (h1 : f true = A) (h2 : f false = B) : asBool x f = asBool x (fun t => brB t A B) := by
  cases x with
  | bool b => cases b; exact h2; exact h1
  | _ => rfl
theorem getO_br (x : Option Bool) (A B : Prop) (f : Bool → Prop) (h1 : f true = A) (h2 : f false = B) : getO x f = getO x (fun t => brB t A B) := by
  cases x with
  | some b => cases b; exact h2; exact h1
  | _ => rfl
theorem wv_ite {Q : α → Hp → Prop} (p : Prop) [Decidable p] (m : M α) : Wp (if p then m else M.bad) H Q E = (p ∧ Wp m H Q E) := by
  by_cases h : p
  · rw [if_pos h]; simp [h]
  · rw [if_neg h]; simp [h]; exact fun h => h
theorem wv_ite' {Q : α → Hp → Prop} (p : Prop) [Decidable p] (m : M α) : Wp (if p then M.bad else m) H Q E = (¬ p ∧ Wp m H Q E) := by
  by_cases h : p
  · rw [if_pos h]; simp [h]; exact fun h => h
  · rw [if_neg h]; simp [h]
theorem wpBin_eq (op : BOp) (a b : Val) : Wp (binV op a b) H Q E = wpBin op a b H Q E := by
  unfold wpBin
  split
  · cases op with
    | add => rfl
    | sub => rfl
    | mul => exact wv_ite _ _
    | fdiv => exact wv_ite' _ _
    | mod => exact wv_ite' _ _
  · rfl
theorem wp_none : wpE T Φ .none Γ H Q E = Q .none H := rfl
theorem wp_bool (b : Bool) : wpE T Φ (.bool b) Γ H Q E = Q (.bool b) H := rfl
theorem wp_int (i : Int) : wpE T Φ (.int i) Γ H Q E = Q (.int i) H := rfl
theorem wp_str (s : Str) : wpE T Φ (.str s) Γ H Q E = Q (.str s) H := rfl
theorem wp_glob (k : Nat) : wpE T Φ (.glob k) Γ H Q E = getO T.globs[k]? (fun v => Q v H) := rfl
theorem wp_var (i : Nat) : wpE T Φ (.var i) Γ H Q E = getV Γ i (fun v => Q v H) := rfl
theorem wp_bin (op : BOp) (a b : ME) : wpE T Φ (.bin op a b) Γ H Q E = wpE T Φ a Γ H (fun x H => wpE T Φ b Γ H (fun y H => wpBin op x y H Q E) E) E := rfl
theorem wp_not (a : ME) : wpE T Φ (.not a) Γ H Q E = wpE T Φ a Γ H (fun x H => asBool x fun b => Q (.bool (!b)) H) E := rfl
theorem wp_and (a b : ME) : wpE T Φ (.and a b) Γ H Q E = wpE T Φ a Γ H (fun x H => asBool x fun t => brB t (wpE T Φ b Γ H Q E) (Q (.bool false) H)) E := rfl
theorem wp_or (a b : ME) : wpE T Φ (.or a b) Γ H Q E = wpE T Φ a Γ H (fun x H => asBool x fun t => brB t (Q (.bool true) H) (wpE T Φ b Γ H Q E)) E := rfl
theorem wp_cmp (op : COp) (a b : ME) : wpE T Φ (.cmp op a b) Γ H Q E = wpE T Φ a Γ H (fun x H => wpE T Φ b Γ H (fun y H => getO (cmpV op x y H) fun r => Q (.bool r) H) E) E := rfl
theorem wp_cmp2 (op1 op2 : COp) (a b c : ME) : wpE T Φ (.cmp2 op1 op2 a b c) Γ H Q E = wpE T Φ a Γ H (fun x H => wpE T Φ b Γ H (fun y H => getO (cmpV op1 x y H) fun r => brB r (wpE T Φ c Γ H (fun z H => getO (cmpV op2 y z H) fun r => Q (.bool r) H) E) (Q (.bool false) H)) E) E := rfl
theorem wp_sub (a i : ME) : wpE T Φ (.sub a i) Γ H Q E = wpE T Φ a Γ H (fun x H => wpE T Φ i Γ H (fun y H => Wp (subV x y) H Q E) E) E := rfl
theorem wp_slice (a : ME) (lo hi : MEo) : wpE T Φ (.slice a lo hi) Γ H Q E = wpE T Φ a Γ H (fun x H => wpO T Φ lo Γ H (fun l H => wpO T Φ hi Γ H (fun h H => Wp (sliceV x l h) H Q E) E) E) E := rfl
theorem wp_oNone : wpO T Φ .none Γ H Q E = Q .none H := rfl
theorem wp_oSome (e : ME) : wpO T Φ (.some e) Γ H Q E = wpE T Φ e Γ H Q E := rfl
theorem wp_tup (es : MEs) : wpE T Φ (.tup es) Γ H Q E = wpEs T Φ es Γ H (fun vs H => Q (.tup vs) H) E := rfl
theorem wp_list (es : MEs) : wpE T Φ (.list es) Γ H Q E = wpEs T Φ es Γ H (fun vs H => Q (.loc H.length) (H ++ [.list vs])) E := rfl
theorem wp_dict : wpE T Φ .dict Γ H Q E = Q (.loc H.length) (H ++ [.dict []]) := rfl
theorem wp_attr (a : ME) (n : Nat) : wpE T Φ (.attr a n) Γ H Q E = wpE T Φ a Γ H (fun x H => Wp (attrV x n) H Q E) E := rfl
theorem wp_callE (f : Nat) (es : MEs) : wpE T Φ (.call f es) Γ H Q E = wpEs T Φ es Γ H (fun vs H => Wp (Φ f vs) H Q E) E := rfl
theorem wp_new (c : Nat) (es : MEs) : wpE T Φ (.new c es) Γ H Q E = getO (T.meth c 0) (fun _ => wpEs T Φ es Γ H (fun vs H => Wp (newV T Φ c vs) H Q E) E) := rfl
theorem wp_umeth (a : ME) (m : Nat) (es : MEs) : wpE T Φ (.umeth a m es) Γ H Q E = wpE T Φ a Γ H (fun o H => Wp (umethOf T o m) H (fun k H => wpEs T Φ es Γ H (fun vs H => Wp (Φ k (o :: vs)) H Q E) E) E) E := rfl
theorem wp_bf (f : BF) (es : MEs) : wpE T Φ (.bf f es) Γ H Q E = wpEs T Φ es Γ H (fun vs H => Wp (bfV f vs) H Q E) E := rfl
theorem wp_bm (a : ME) (m : BM) (es : MEs) : wpE T Φ (.bm a m es) Γ H Q E = wpE T Φ a Γ H (fun o H => getO (bmFits m o H) fun _ => wpEs T Φ es Γ H (fun vs H => Wp (bmV m o vs) H Q E) E) E := rfl
theorem wp_isinst (a : ME) (t : Ty) : wpE T Φ (.isinst a t) Γ H Q E = wpE T Φ a Γ H (fun x H => Wp (isinstV T x t) H Q E) E := rfl
theorem wp_nil {Q : List Val → Hp → Prop} : wpEs T Φ .nil Γ H Q E = Q [] H := rfl
theorem wp_cons {Q : List Val → Hp → Prop} (e : ME) (es : MEs) : wpEs T Φ (.cons e es) Γ H Q E = wpE T Φ e Γ H (fun v H => wpEs T Φ es Γ H (fun vs H => Q (v :: vs) H) E) E := rfl
theorem wps_nil : wpSs T Φ .nil Γ H QS R ES = QS Γ H := rfl
theorem wps_cons (s : MS) (ss : MSs) : wpSs T Φ (.cons s ss) Γ H QS R ES = wpS T Φ s Γ H (fun Γ H => wpSs T Φ ss Γ H QS R ES) R ES := rfl
theorem wps_expr (e : ME) : wpS T Φ (.expr e) Γ H QS R ES = wpE T Φ e Γ H (fun _ H => QS Γ H) (fun c H => ES c Γ H) := rfl
theorem wps_assign (i : Nat) (e : ME) : wpS T Φ (.assign i e) Γ H QS R ES = wpE T Φ e Γ H (fun v H => QS (Γ.set i (some v)) H) (fun c H => ES c Γ H) := rfl
theorem wps_ret (e : MEo) : wpS T Φ (.ret e) Γ H QS R ES = wpO T Φ e Γ H R (fun c H => ES c Γ H) := rfl
theorem wps_ite (c : ME) (t f : MSs) : wpS T Φ (.ite c t f) Γ H QS R ES = wpE T Φ c Γ H (fun v H => asBool v fun b => brB b (wpSs T Φ t Γ H QS R ES) (wpSs T Φ f Γ H QS R ES)) (fun c H => ES c Γ H) := rfl
theorem wps_setattr (o : ME) (n : Nat) (e : ME) : wpS T Φ (.setattr o n e) Γ H QS R ES = wpE T Φ e Γ H (fun v H => wpE T Φ o Γ H (fun o H => Wp (setattrV o n v) H (fun _ H => QS Γ H) (fun c H => ES c Γ H)) (fun c H => ES c Γ H)) (fun c H => ES c Γ H) := rfl
theorem wps_setitem (o i e : ME) : wpS T Φ (.setitem o i e) Γ H QS R ES = wpE T Φ e Γ H (fun v H => wpE T Φ o Γ H (fun o H => wpE T Φ i Γ H (fun i H => Wp (setitemV o i v) H (fun _ H => QS Γ H) (fun c H => ES c Γ H)) (fun c H => ES c Γ H)) (fun c H => ES c Γ H)) (fun c H => ES c Γ H) := rfl
theorem wps_raise (c : Nat) (m : Str) : wpS T Φ (.raise c m) Γ H QS R ES = (T.isExc c = true ∧ ES c Γ H) := rfl
theorem wps_if (T : Tab) (c : Nat) (Γ : Env') (H : Hp) (Q : Env' → Hp → Prop) (R : Val → Hp → Prop) (E : Nat → Env' → Hp → Prop) : WpS (if T.isExc c = true then .exc c Γ H else .bad) Q R E = (T.isExc c = true ∧ E c Γ H) := by
  by_cases h : T.isExc c = true
  · rw [if_pos h]; simp [h]; rfl
  · rw [if_neg h]; simp [h]; exact fun x => x
theorem wpE_nx {e : ME} {Q Q' : Val → Hp → Prop} (h : ∀ v H, Q v H = Q' v H) : wpE T Φ e Γ H Q E = wpE T Φ e Γ H Q' E := congrArg (fun q => wpE T Φ e Γ H q E) (funext fun v => funext fun H => h v H)
theorem wpO_nx {e : MEo} {Q Q' : Val → Hp → Prop} (h : ∀ v H, Q v H = Q' v H) : wpO T Φ e Γ H Q E = wpO T Φ e Γ H Q' E := congrArg (fun q => wpO T Φ e Γ H q E) (funext fun v => funext fun H => h v H)
theorem Wp_nx {m : M α} {Q Q' : α → Hp → Prop} (h : ∀ v H, Q v H = Q' v H) : Wp m H Q E = Wp m H Q' E := congrArg (fun q => Wp m H q E) (funext fun v => funext fun H => h v H)
theorem getO_nx {o : Option α} {Q Q' : α → Prop} (h : ∀ v, Q v = Q' v) : getO o Q = getO o Q' := congrArg (getO o) (funext h)
theorem wpS_nx {e : MS} {Q Q' : Env' → Hp → Prop} (h : ∀ v H, Q v H = Q' v H) : wpS T Φ e Γ H Q R ES = wpS T Φ e Γ H Q' R ES := congrArg (fun q => wpS T Φ e Γ H q R ES) (funext fun v => funext fun H => h v H)
end
mutual
theorem wpE_eq (T : Tab) (Φ : Funs) : ∀ (e : ME) (Γ : Env') (H : Hp) (Q : Val → Hp → Prop) (E : Nat → Hp → Prop), Wp (evalE T Φ e Γ) H Q E = wpE T Φ e Γ H Q E
  | .none, _, _, _, _ => rfl
  | .bool _, _, _, _, _ => rfl
  | .int _, _, _, _, _ => rfl
  | .str _, _, _, _, _ => rfl
  | .glob k, _, H, Q, E => wp_opt _
  | .var i, Γ, H, Q, E => (wp_opt _).trans (getV_get Γ i fun v => Q v H).symm
  | .bin op a b, Γ, H, Q, E => (wp_bnd _ _).trans ((wpE_eq T Φ a Γ H _ E).trans ((wpE_nx fun x H => (wp_bnd _ _).trans ((wpE_eq T Φ b Γ H _ E).trans (wpE_nx fun y H => wpBin_eq op x y))).trans (wp_bin op a b).symm))
  | .neg _, _, _, _, _ => rfl
  | .not a, Γ, H, Q, E => (wp_bnd _ _).trans ((wpE_eq T Φ a Γ H _ E).trans ((wpE_nx fun x H => (wp_bnd _ _).trans (wp_truth x)).trans (wp_not a).symm))
  | .and a b, Γ, H, Q, E => (wp_bnd _ _).trans ((wpE_eq T Φ a Γ H _ E).trans ((wpE_nx fun x H => (wp_bnd _ _).trans ((wp_truth x).trans (asBool_br _ _ _ _ (wpE_eq T Φ b Γ H Q E) rfl))).trans (wp_and a b).symm))
  | .or a b, Γ, H, Q, E => (wp_bnd _ _).trans ((wpE_eq T Φ a Γ H _ E).trans ((wpE_nx fun x H => (wp_bnd _ _).trans ((wp_truth x).trans (asBool_br _ _ _ _ rfl (wpE_eq T Φ b Γ H Q E)))).trans (wp_or a b).symm))
  | .cmp op a b, Γ, H, Q, E => (wp_bnd _ _).trans ((wpE_eq T Φ a Γ H _ E).trans ((wpE_nx fun x H => (wp_bnd _ _).trans ((wpE_eq T Φ b Γ H _ E).trans (wpE_nx fun y H => (wp_bnd _ _).trans (wp_look _)))).trans (wp_cmp op a b).symm))
  | .cmp2 op1 op2 a b c, Γ, H, Q, E => (wp_bnd _ _).trans ((wpE_eq T Φ a Γ H _ E).trans ((wpE_nx fun x H => (wp_bnd _ _).trans ((wpE_eq T Φ b Γ H _ E).trans (wpE_nx fun y H => (wp_bnd _ _).trans ((wp_look _).trans (getO_br _ _ _ _ ((wp_bnd _ _).trans ((wpE_eq T Φ c Γ H _ E).trans (wpE_nx fun z H => (wp_bnd _ _).trans (wp_look _)))) rfl))))).trans (wp_cmp2 op1 op2 a b c).symm))
  | .sub a i, Γ, H, Q, E => (wp_bnd _ _).trans ((wpE_eq T Φ a Γ H _ E).trans ((wpE_nx fun x H => (wp_bnd _ _).trans (wpE_eq T Φ i Γ H _ E)).trans (wp_sub a i).symm))
  | .slice a lo hi, Γ, H, Q, E => (wp_bnd _ _).trans ((wpE_eq T Φ a Γ H _ E).trans ((wpE_nx fun x H => (wp_bnd _ _).trans ((wpO_eq T Φ lo Γ H _ E).trans (wpO_nx fun l H => (wp_bnd _ _).trans (wpO_eq T Φ hi Γ H _ E)))).trans (wp_slice a lo hi).symm))
  | .tup es, Γ, H, Q, E => (wp_bnd _ _).trans ((wpEs_eq T Φ es Γ H _ E).trans rfl)
  | .list es, Γ, H, Q, E => (wp_bnd _ _).trans ((wpEs_eq T Φ es Γ H _ E).trans rfl)
  | .dict, _, _, _, _ => rfl
  | .attr a n, Γ, H, Q, E => (wp_bnd _ _).trans (wpE_eq T Φ a Γ H _ E)
  | .call f es, Γ, H, Q, E => (wp_bnd _ _).trans (wpEs_eq T Φ es Γ H _ E)
  | .new c es, Γ, H, Q, E => by
    have h : evalE T Φ (.new c es) Γ = (match T.meth c 0 with
      | some _ => (evalEs T Φ es Γ).bnd fun vs => newV T Φ c vs
      | none => M.bad) := rfl
    rw [h]
    show _ = getO (T.meth c 0) _
    cases T.meth c 0 with
    | none => rfl
    | some k => exact (wp_bnd _ _).trans (wpEs_eq T Φ es Γ H _ E)
  | .umeth a m es, Γ, H, Q, E => (wp_bnd _ _).trans ((wpE_eq T Φ a Γ H _ E).trans ((wpE_nx fun o H => (wp_bnd _ _).trans (Wp_nx fun k H => (wp_bnd _ _).trans (wpEs_eq T Φ es Γ H _ E))).trans (wp_umeth a m es).symm))
  | .bf f es, Γ, H, Q, E => (wp_bnd _ _).trans (wpEs_eq T Φ es Γ H _ E)
  | .bm a m es, Γ, H, Q, E => (wp_bnd _ _).trans ((wpE_eq T Φ a Γ H _ E).trans ((wpE_nx fun o H => (wp_bnd _ _).trans ((wp_look _).trans (getO_nx fun _ => (wp_bnd _ _).trans (wpEs_eq T Φ es Γ H _ E)))).trans (wp_bm a m es).symm))
  | .isinst a t, Γ, H, Q, E => (wp_bnd _ _).trans (wpE_eq T Φ a Γ H _ E)
  | .comp _ _ _, _, _, _, _ => rfl
theorem wpO_eq (T : Tab) (Φ : Funs) : ∀ (e : MEo) (Γ : Env') (H : Hp) (Q : Val → Hp → Prop) (E : Nat → Hp → Prop), Wp (evalO T Φ e Γ) H Q E = wpO T Φ e Γ H Q E
  | .none, _, _, _, _ => rfl
  | .some e, Γ, H, Q, E => wpE_eq T Φ e Γ H Q E
theorem wpEs_eq (T : Tab) (Φ : Funs) : ∀ (es : MEs) (Γ : Env') (H : Hp) (Q : List Val → Hp → Prop) (E : Nat → Hp → Prop), Wp (evalEs T Φ es Γ) H Q E = wpEs T Φ es Γ H Q E
  | .nil, _, _, _, _ => rfl
  | .cons e es, Γ, H, Q, E => (wp_bnd _ _).trans ((wpE_eq T Φ e Γ H _ E).trans ((wpE_nx fun v H => (wp_bnd _ _).trans (wpEs_eq T Φ es Γ H _ E)).trans (wp_cons e es).symm))
end
mutual
theorem wpS_eq (T : Tab) (Φ : Funs) : ∀ (s : MS) (Γ : Env') (H : Hp) (Q : Env' → Hp → Prop) (R : Val → Hp → Prop) (E : Nat → Env' → Hp → Prop), WpS (execS T Φ s Γ H) Q R E = wpS T Φ s Γ H Q R E
  | .expr e, Γ, H, Q, R, E => (wps_bnd _ _ _).trans (wpE_eq T Φ e Γ H _ _)
  | .assign i e, Γ, H, Q, R, E => (wps_bnd _ _ _).trans (wpE_eq T Φ e Γ H _ _)
  | .setattr o n e, Γ, H, Q, R, E => (wps_bnd _ _ _).trans ((wpE_eq T Φ e Γ H _ _).trans ((wpE_nx fun v H => (wps_bnd _ _ _).trans ((wpE_eq T Φ o Γ H _ _).trans (wpE_nx fun o H => wps_bnd _ _ _))).trans (wps_setattr o n e).symm))
  | .setitem o i e, Γ, H, Q, R, E => (wps_bnd _ _ _).trans ((wpE_eq T Φ e Γ H _ _).trans ((wpE_nx fun v H => (wps_bnd _ _ _).trans ((wpE_eq T Φ o Γ H _ _).trans (wpE_nx fun o H => (wps_bnd _ _ _).trans ((wpE_eq T Φ i Γ H _ _).trans (wpE_nx fun i H => wps_bnd _ _ _))))).trans (wps_setitem o i e).symm))
  | .ret e, Γ, H, Q, R, E => (wps_bnd _ _ _).trans (wpO_eq T Φ e Γ H _ _)
  | .ite c t f, Γ, H, Q, R, E => (wps_bnd _ _ _).trans ((wp_bnd _ _).trans ((wpE_eq T Φ c Γ H _ _).trans ((wpE_nx fun x H => (wp_truth x).trans (asBool_br _ _ _ _ (wpSs_eq T Φ t Γ H Q R E) (wpSs_eq T Φ f Γ H Q R E))).trans (wps_ite c t f).symm)))
  | .raise c m, Γ, H, Q, R, E => wps_if T c Γ H Q R E
  | .each _ _ _, _, _, _, _, _ => rfl
  | .eachEnum _ _ _ _, _, _, _, _, _ => rfl
  | .tryx _ _, _, _, _, _, _ => rfl
theorem wpSs_eq (T : Tab) (Φ : Funs) : ∀ (ss : MSs) (Γ : Env') (H : Hp) (Q : Env' → Hp → Prop) (R : Val → Hp → Prop) (E : Nat → Env' → Hp → Prop), WpS (execSs T Φ ss Γ H) Q R E = wpSs T Φ ss Γ H Q R E
  | .nil, _, _, _, _, _ => rfl
  | .cons s ss, Γ, H, Q, R, E => (wps_then _ _).trans ((wpS_eq T Φ s Γ H _ R E).trans ((wpS_nx fun Γ H => wpSs_eq T Φ ss Γ H Q R E).trans (wps_cons s ss).symm))
end
section
variable {α β : Type} {T : Tab} {Φ : Funs} {Γ : Env'} {H : Hp}
variable {Q : Val → Hp → Prop} {E : Nat → Hp → Prop} {QS : Env' → Hp → Prop} {R : Val → Hp → Prop} {ES : Nat → Env' → Hp → Prop}
theorem wpE_mono {e : ME} {Q' : Val → Hp → Prop} {E' : Nat → Hp → Prop} (h : wpE T Φ e Γ H Q E) (hq : ∀ a H', Q a H' → Q' a H') (he : ∀ c H', E c H' → E' c H') : wpE T Φ e Γ H Q' E' := by
  rw [← wpE_eq] at h ⊢; exact h.mono hq he
theorem wpE_then {e : ME} {Q' : Val → Hp → Prop} (h : wpE T Φ e Γ H Q NoE) (hq : ∀ a H', Q a H' → Q' a H') : wpE T Φ e Γ H Q' E := wpE_mono h hq fun _ _ f => f.elim
theorem wpS_mono {s : MS} {Q' : Env' → Hp → Prop} {R' : Val → Hp → Prop} {E' : Nat → Env' → Hp → Prop} (h : wpS T Φ s Γ H QS R ES) (hq : ∀ Γ H', QS Γ H' → Q' Γ H') (hr : ∀ v H', R v H' → R' v H') (he : ∀ c Γ H', ES c Γ H' → E' c Γ H') : wpS T Φ s Γ H Q' R' E' := by
  rw [← wpS_eq] at h ⊢; exact h.mono hq hr he
theorem wpSs_mono {s : MSs} {Q' : Env' → Hp → Prop} {R' : Val → Hp → Prop} {E' : Nat → Env' → Hp → Prop} (h : wpSs T Φ s Γ H QS R ES) (hq : ∀ Γ H', QS Γ H' → Q' Γ H') (hr : ∀ v H', R v H' → R' v H') (he : ∀ c Γ H', ES c Γ H' → E' c Γ H') : wpSs T Φ s Γ H Q' R' E' := by
  rw [← wpSs_eq] at h ⊢; exact h.mono hq hr he
theorem wp_call {d k : Nat} {g : MFun} {args : List Val} (h : T.funs[k]? = some g) (ha : args.length = g.arity) :
    Wp (callF T (d + 1) k args) H Q E = wpSs T (callF T d) g.body (args.map some ++ List.replicate g.nvars none) H (fun _ H' => Q .none H') Q (fun c _ H' => E c H') := by
  rw [← wpSs_eq]
  unfold Wp
  rw [call_at h ha]
  cases execSs T (callF T d) g.body (args.map some ++ List.replicate g.nvars none) H <;> rfl
theorem wps_try {body : MSs} {hs : MHs} (h : wpSs T Φ body Γ H QS R (fun c Γ H => WpS (execH T Φ hs c Γ H) QS R ES)) : wpS T Φ (.tryx body hs) Γ H QS R ES := by
  rw [← wpSs_eq] at h
  show WpS (match execSs T Φ body Γ H with
    | .exc c Γ' H' => execH T Φ hs c Γ' H'
    | r => r) QS R ES
  generalize execSs T Φ body Γ H = r at h
  cases r <;> exact h
theorem wps_each {i : Nat} {it : ME} {body : MSs} (h : wpE T Φ it Γ H (fun v H => getO (iterOf v H) fun p => WpS (eachL (chk p.2 p.1) (bind1 i) (execSs T Φ body) p.1 Γ H) QS R ES) (fun c H => ES c Γ H)) : wpS T Φ (.each i it body) Γ H QS R ES := by
  rw [← wpE_eq] at h
  refine ((wps_bnd _ _ _).trans ?_).mpr h
  simp only [wps_bnd, wp_look]
theorem wps_eachEnum {i j : Nat} {it : ME} {body : MSs} (h : wpE T Φ it Γ H (fun v H => getO (listOf v H) fun p => WpS (eachL (chk (some p.2) p.1) (bind2 i j) (execSs T Φ body) (countUp 0 p.1) Γ H) QS R ES) (fun c H => ES c Γ H)) : wpS T Φ (.eachEnum i j it body) Γ H QS R ES := by
  rw [← wpE_eq] at h
  refine ((wps_bnd _ _ _).trans ?_).mpr h
  simp only [wps_bnd, wp_look]
theorem wps_eachL {chk : Hp → Bool} {bind : Val → Env' → Option Env'} {body : MSs} (I : List Val → Env' → Hp → Prop) :
    ∀ (xs : List Val) (Γ : Env') (H : Hp), I xs Γ H → (∀ Γ H, I [] Γ H → QS Γ H) → (∀ ys Γ H, I ys Γ H → chk H = true) →
    (∀ x ys Γ H, I (x :: ys) Γ H → ∃ Γ', bind x Γ = some Γ' ∧ wpSs T Φ body Γ' H (I ys) R ES) → WpS (eachL chk bind (execSs T Φ body) xs Γ H) QS R ES
  | [], Γ, H, h, hd, hc, _ => by
    rw [eachL_nil, if_pos (hc _ _ _ h)]; exact hd _ _ h
  | x :: xs, Γ, H, h, hd, hc, hs => by
    rw [eachL_cons, if_pos (hc _ _ _ h)]
    obtain ⟨Γ', e, w⟩ := hs _ _ _ _ h
    rw [e]
    rw [← wpSs_eq] at w
    rw [wps_then]
    exact w.mono (fun Γ H h => wps_eachL I xs Γ H h hd hc hs) (fun _ _ h => h) (fun _ _ _ h => h)
theorem wps_eachN {chk : Hp → Bool} {bind : Val → Env' → Option Env'} {body : MSs} {xs : List Val} (I : Nat → Env' → Hp → Prop)
    (h0 : I 0 Γ H) (hd : ∀ Γ H, I xs.length Γ H → QS Γ H) (hc : ∀ k Γ H, k ≤ xs.length → I k Γ H → chk H = true)
    (hs : ∀ k x Γ H, xs[k]? = some x → I k Γ H → ∃ Γ', bind x Γ = some Γ' ∧ wpSs T Φ body Γ' H (I (k + 1)) R ES) : WpS (eachL chk bind (execSs T Φ body) xs Γ H) QS R ES := by
  refine wps_eachL (fun ys Γ H => ∃ k, ys = xs.drop k ∧ k ≤ xs.length ∧ I k Γ H) xs Γ H ⟨0, rfl, Nat.zero_le _, h0⟩ ?_ ?_ ?_
  · intro Γ H zz
    obtain ⟨k, e, l, h⟩ := zz
    have : k = xs.length := by
      have := congrArg List.length e
      simp at this; omega
    subst this; exact hd _ _ h
  · intro ys Γ H zz
    obtain ⟨k, e, l, h⟩ := zz
    exact hc k Γ H l h
  · intro x ys Γ H zz
    obtain ⟨k, e, l, h⟩ := zz
    have hx : xs[k]? = some x := by
      have := congrArg (fun z => z[0]?) e
      simpa using this.symm
    have lt := (List.getElem?_eq_some_iff.mp hx).1
    obtain ⟨Γ', hb, w⟩ := hs k x Γ H hx h
    refine ⟨Γ', hb, wpSs_mono w ?_ (fun _ _ h => h) (fun _ _ _ h => h)⟩
    intro Γ H h
    refine ⟨k + 1, ?_, lt, h⟩
    have := congrArg List.tail e
    simpa using this
theorem wp_compL {chk : Hp → Bool} {step : Val → M (Option Val)} {Q : List Val → Hp → Prop} (I : List Val → List Val → Hp → Prop) :
    ∀ (xs : List Val) (out : List Val) (H : Hp), I xs out H → (∀ ys out H, I ys out H → chk H = true) →
    (∀ x ys out H, I (x :: ys) out H → Wp (step x) H (fun r H => I ys (out ++ r.toList) H) E) →
    (∀ zs H, I [] (out ++ zs) H → Q zs H) → Wp (compL chk step xs) H Q E
  | [], out, H, h, hc, _, hd => by
    have : compL chk step [] H = .ok [] H := by
      exact if_pos (hc _ _ _ h)
    exact Wp.of_eq this (hd [] H (by simpa using h))
  | x :: xs, out, H, h, hc, hs, hd => by
    have : compL chk step (x :: xs) H = ((step x).bnd fun r => (compL chk step xs).bnd fun ys => .ret (match r with | some y => y :: ys | none => ys)) H := by
      exact if_pos (hc _ _ _ h)
    unfold Wp; rw [this]
    show Wp _ H Q E
    rw [wp_bnd]
    refine (hs _ _ _ _ h).mono ?_ (fun _ _ h => h)
    intro r H h
    rw [wp_bnd]
    simp only [wp_ret]
    refine wp_compL I xs _ H h hc hs ?_
    intro zs H h
    refine hd _ H ?_
    cases r with
    | none => simpa using h
    | some y => simpa using h
theorem wp_quiet {Q : α → Hp → Prop} {m : M α} (h : Wp m H Q NoE) : Wp (M.quiet m) H Q E := by
  unfold Wp at h ⊢
  unfold M.quiet
  cases hm : m H with
  | ok a H' => rw [hm] at h; exact h
  | exc c H' => rw [hm] at h; exact h.elim
  | bad => rw [hm] at h; exact h.elim
theorem wp_comp {elt it : ME} {cond : MEo} (h : wpE T Φ it Γ H (fun v H => getO (iterOf v H) fun p =>
    Wp (compL (chk p.2 p.1) (fun x => (evalC T Φ cond (Γ ++ [some x])).bnd fun b => match b with
        | true => (evalE T Φ elt (Γ ++ [some x])).bnd fun y => .ret (some y)
        | false => .ret none) p.1) H (fun ys H => ys.length < lid ∧ Q (.loc H.length) (H ++ [.list ys])) NoE) E) : wpE T Φ (.comp elt it cond) Γ H Q E := by
  rw [← wpE_eq] at h ⊢
  refine (wp_bnd _ _).mpr (h.mono ?_ (fun _ _ h => h))
  intro v H h
  rw [wp_bnd, wp_look]
  cases hp : iterOf v H with
  | none => rw [hp] at h; exact h
  | some p =>
  rw [hp] at h
  show Wp _ _ _ _
  rw [wp_bnd]
  refine wp_quiet (Wp.mono h ?_ (fun _ _ h => h))
  rintro ys H ⟨hl, q⟩
  rw [if_pos hl]; exact q
theorem wp_step0 {elt : ME} {Q : Option Val → Hp → Prop} (h : wpE T Φ elt Γ H (fun y H => Q (some y) H) E) :
    Wp ((evalC T Φ .none Γ).bnd fun b => match b with
        | true => (evalE T Φ elt Γ).bnd fun y => M.ret (some y)
        | false => .ret none) H Q E := by
  rw [← wpE_eq] at h
  exact (wp_bnd _ _).mpr (show Wp _ H Q E from (wp_bnd _ _).mpr h)
theorem wp_step {elt c : ME} {Q : Option Val → Hp → Prop} (h : wpE T Φ c Γ H (fun v H => asBool v fun b => brB b (wpE T Φ elt Γ H (fun y H => Q (some y) H) E) (Q none H)) E) :
    Wp ((evalC T Φ (.some c) Γ).bnd fun b => match b with
        | true => (evalE T Φ elt Γ).bnd fun y => M.ret (some y)
        | false => .ret none) H Q E := by
  simp only [← wpE_eq] at h
  rw [wp_bnd]
  refine (wp_bnd _ _).mpr (h.mono ?_ (fun _ _ h => h))
  intro v H h
  cases v with
  | bool b =>
    cases b with
    | true => exact (wp_bnd _ _).mpr h
    | false => exact h
  | _ => exact h
end
end Mine.Pure
-- part LV
namespace Mine.Pure
open PySem
section
variable {T : Tab} {Φ : Funs} {Γ : Env'} {H : Hp}
variable {Q : Val → Hp → Prop} {E : Nat → Hp → Prop}
theorem wv_add (x y : Int) : wpBin .add (.int x) (.int y) H Q E = Q (.int (x + y)) H := rfl
theorem wv_sub (x y : Int) : wpBin .sub (.int x) (.int y) H Q E = Q (.int (x - y)) H := rfl
theorem wv_mul (x y : Int) : wpBin .mul (.int x) (.int y) H Q E = ((small x || small y) = true ∧ Q (.int (x * y)) H) := rfl
theorem wv_fdiv (x y : Int) : wpBin .fdiv (.int x) (.int y) H Q E = (¬ (y = 0 ∨ 1073741824 ≤ y.natAbs) ∧ Q (.int (Int.fdiv x y)) H) := rfl
theorem wv_mod (x y : Int) : wpBin .mod (.int x) (.int y) H Q E = (¬ (y = 0) ∧ Q (.int (Int.fmod x y)) H) := rfl
theorem wv_range (n : Int) : Wp (bfV .range [.int n]) H Q E = ((-1073741824 ≤ n ∧ n ≤ 1073741824) ∧ Q (.rng n) H) := wv_ite _ _
theorem wv_len_script (ns : List Int) : Wp (bfV .len [.script ns]) H Q E = Q (.int ns.length) H := by rw [bf_len_script, wp_ret]
theorem wv_len_tup (xs : List Val) : Wp (bfV .len [.tup xs]) H Q E = Q (.int xs.length) H := rfl
theorem wv_len_loc {l : Nat} {xs : List Val} (h : H[l]? = some (.list xs)) : Wp (bfV .len [.loc l]) H Q E = Q (.int xs.length) H := by
  unfold Wp; rw [bf_len_loc h]
theorem wv_int (b : Bool) : Wp (bfV .int [.bool b]) H Q E = Q (.int (if b = true then 1 else 0)) H := rfl
theorem data_int (n : Nat) (i : Int) : dataOf H n (.int i) = some (.int i) := by cases n <;> rfl
theorem data_none (n : Nat) : dataOf H n .none = some .none := by cases n <;> rfl
theorem go_eq (x y : Int) (k : Bool → Prop) : getO (cmpV .eq (.int x) (.int y) H) k = k (decide (x = y)) := rfl
theorem go_ne (x y : Int) (k : Bool → Prop) : getO (cmpV .ne (.int x) (.int y) H) k = k (!decide (x = y)) := rfl
theorem go_neB (x y : Bool) (k : Bool → Prop) : getO (cmpV .ne (.bool x) (.bool y) H) k = k (!decide (x = y)) := rfl
theorem go_isB (x y : Bool) (k : Bool → Prop) : getO (cmpV .is (.bool x) (.bool y) H) k = k (decide (x = y)) := rfl
theorem go_lt (x y : Int) (k : Bool → Prop) : getO (cmpV .lt (.int x) (.int y) H) k = k (decide (x < y)) := rfl
theorem go_gt (x y : Int) (k : Bool → Prop) : getO (cmpV .gt (.int x) (.int y) H) k = k (decide (y < x)) := rfl
theorem go_le (x y : Int) (k : Bool → Prop) : getO (cmpV .le (.int x) (.int y) H) k = k (decide (x ≤ y)) := rfl
theorem go_isNone_none (k : Bool → Prop) : getO (cmpV .is .none .none H) k = k true := rfl
theorem go_isNone_int (i : Int) (k : Bool → Prop) : getO (cmpV .is (.int i) .none H) k = k false := rfl
theorem wi_kd (v : Val) (t : Ty) (k : Kd) (h : kdOf H v = some k) (ht : ∀ c, t ≠ .cls c) : Wp (isinstV T v t) H Q E = Q (.bool (isKd t k)) H := by
  have e : isinstV T v t H = .ok (.bool (isKd t k)) H := by
    unfold isinstV; rw [look_at]
    cases t with
    | cls c => exact absurd rfl (ht c)
    | _ => dsimp only; rw [h]; rfl
  unfold Wp; rw [e]
theorem wi_int_int (i : Int) : Wp (isinstV T (.int i) .int) H Q E = Q (.bool true) H := rfl
theorem wi_int_bool (i : Int) : Wp (isinstV T (.int i) .bool) H Q E = Q (.bool false) H := rfl
theorem wi_int_tup (i : Int) : Wp (isinstV T (.int i) .tuple) H Q E = Q (.bool false) H := rfl
theorem wi_int_list (i : Int) : Wp (isinstV T (.int i) .list) H Q E = Q (.bool false) H := rfl
theorem wi_bool_int (i : Bool) : Wp (isinstV T (.bool i) .int) H Q E = Q (.bool true) H := rfl
theorem wi_bool_bool (i : Bool) : Wp (isinstV T (.bool i) .bool) H Q E = Q (.bool true) H := rfl
theorem wi_bool_tup (i : Bool) : Wp (isinstV T (.bool i) .tuple) H Q E = Q (.bool false) H := rfl
theorem wi_none_tup : Wp (isinstV T .none .tuple) H Q E = Q (.bool false) H := rfl
theorem wi_none_int : Wp (isinstV T .none .int) H Q E = Q (.bool false) H := rfl
theorem wi_str_tup (s : Str) : Wp (isinstV T (.str s) .tuple) H Q E = Q (.bool false) H := rfl
theorem wi_str_int (s : Str) : Wp (isinstV T (.str s) .int) H Q E = Q (.bool false) H := rfl
theorem wi_tup_tup (xs : List Val) : Wp (isinstV T (.tup xs) .tuple) H Q E = Q (.bool true) H := rfl
theorem wi_tup_int (xs : List Val) : Wp (isinstV T (.tup xs) .int) H Q E = Q (.bool false) H := rfl
theorem wi_list (l : Nat) (xs : List Val) (h : H[l]? = some (.list xs)) : Wp (isinstV T (.loc l) .list) H Q E = Q (.bool true) H :=
  wi_kd _ _ .list (kd_of h) (by intro c h; cases h)
theorem ws_tup0 (x : Val) (xs : List Val) : Wp (subV (.tup (x :: xs)) (.int 0)) H Q E = Q x H := rfl
theorem ws_tup1 (x y : Val) (xs : List Val) : Wp (subV (.tup (x :: y :: xs)) (.int 1)) H Q E = Q y H := rfl
theorem ws_tup2 (x y z : Val) (xs : List Val) : Wp (subV (.tup (x :: y :: z :: xs)) (.int 2)) H Q E = Q z H := rfl
theorem place_nat (k n : Nat) (h : k < n) : placeOf (k : Int) n = some k := by
  unfold placeOf
  rw [if_pos (by omega), if_pos (by omega)]; rfl
theorem place_int (k : Int) (n : Nat) (h0 : 0 ≤ k) (h : k < n) : placeOf k n = some k.toNat := by
  unfold placeOf
  rw [if_pos h0, if_pos h]
theorem ws_list {l : Nat} {xs : List Val} (h : H[l]? = some (.list xs)) {k : Int} {v : Val} (h0 : 0 ≤ k) (hk : xs[k.toNat]? = some v) (q : Q v H) : Wp (subV (.loc l) (.int k)) H Q E := by
  have lt := (List.getElem?_eq_some_iff.mp hk).1
  refine Wp.of_eq ?_ q
  unfold subV; rw [look_at]
  simp only [h, place_int k xs.length h0 (by omega), Option.bind_some, hk]
theorem fits_append {l : Nat} {xs : List Val} (h : H[l]? = some (.list xs)) : bmFits .append (.loc l) H = some () := if_pos (host_list h)
theorem wm_append {l : Nat} {xs : List Val} {v : Val} (h : H[l]? = some (.list xs)) (hl : xs.length < lid) (q : Q .none (H.set l (.list (xs ++ [v])))) : Wp (bmV .append (.loc l) [v]) H Q E := by
  refine Wp.of_eq ?_ q
  unfold bmV; simp only [h]
  exact if_pos hl
theorem wp_appendE {i : Nat} {e : ME} {l : Nat} {xs : List Val} (hi : Γ[i]? = some (some (.loc l))) (h : H[l]? = some (.list xs))
    (q : wpE T Φ e Γ H (fun v H' => ∃ ys, H'[l]? = some (.list ys) ∧ ys.length < lid ∧ Q .none (H'.set l (.list (ys ++ [v])))) E) : wpE T Φ (.bm (.var i) .append (.cons e .nil)) Γ H Q E := by
  rw [wp_bm, wp_var]
  rw [getV_get, hi]
  show getO (bmFits _ _ _) _
  rw [fits_append h]
  refine wpE_mono q ?_ (fun _ _ h => h)
  intro v H' zz
  obtain ⟨ys, hy, hl, q⟩ := zz
  exact wm_append hy hl q
end
end Mine.Pure
-- part LX
namespace Mine.Pure
open PySem
noncomputable def Ext (H H' : Hp) : Prop := ∃ K, H' = H ++ K
theorem Ext.refl (H : Hp) : Ext H H := ⟨[], by simp⟩
theorem Ext.trans {H H1 H2 : Hp} : Ext H H1 → Ext H1 H2 → Ext H H2
  | ⟨K, e⟩, ⟨L, f⟩ => ⟨K ++ L, by rw [f, e, List.append_assoc]⟩
theorem Ext.new {H H' : Hp} (h : Ext H H') (o : HObj) : Ext H (H' ++ [o]) := h.trans ⟨[o], rfl⟩
theorem Ext.get {H H' : Hp} (h : Ext H H') {l : Nat} {o : HObj} (g : H[l]? = some o) : H'[l]? = some o := by
  obtain ⟨K, rfl⟩ := h
  rw [List.getElem?_append_left (List.getElem?_eq_some_iff.mp g).1]; exact g
theorem Ext.len {H H' : Hp} (h : Ext H H') : H.length ≤ H'.length := by
  obtain ⟨K, rfl⟩ := h; simp
theorem Ext.set {H H' : Hp} (h : Ext H H') {l : Nat} (hl : H.length ≤ l) (o : HObj) : Ext H (H'.set l o) := by
  obtain ⟨K, rfl⟩ := h
  exact ⟨K.set (l - H.length) o, by rw [List.set_append_right _ _ hl]⟩
theorem get_new (H : Hp) (o : HObj) : (H ++ [o])[H.length]? = some o := by simp
theorem lt_of_get {H : Hp} {l : Nat} {o : HObj} (g : H[l]? = some o) : l < H.length := (List.getElem?_eq_some_iff.mp g).1
theorem get_set {H : Hp} {l : Nat} {o : HObj} (o' : HObj) (g : H[l]? = some o) : (H.set l o')[l]? = some o' := by
  rw [List.getElem?_set_self (lt_of_get g)]
theorem get_other {H : Hp} {l m : Nat} {o : HObj} (o' : HObj) (hne : l ≠ m) (g : H[m]? = some o) : (H.set l o')[m]? = some o := by
  rw [List.getElem?_set_ne hne]; exact g
theorem chk_list {H : Hp} {l : Nat} {xs : List Val} (h : H[l]? = some (.list xs)) : chk (some l) xs H = true := by
  exact chk_of h
theorem iter_list {H : Hp} {l : Nat} {xs : List Val} (h : H[l]? = some (.list xs)) : iterOf (.loc l) H = some (xs, some l) := iter_of h
theorem listOf_list {H : Hp} {l : Nat} {xs : List Val} (h : H[l]? = some (.list xs)) : listOf (.loc l) H = some (xs, l) := listOf_of h
noncomputable def rngL (n : Int) : List Val := (List.range n.toNat).map (fun (k : Nat) => .int (k : Int))
theorem rngL_get {n : Int} {k : Nat} {x : Val} (h : (rngL n)[k]? = some x) : x = .int k ∧ (k : Int) < n := by
  unfold rngL at h
  rw [List.getElem?_map] at h
  cases e : (List.range n.toNat)[k]? with
  | none => rw [e] at h; exact nomatch h
  | some j =>
    rw [e] at h
    obtain ⟨lt, g⟩ := List.getElem?_eq_some_iff.mp e
    simp at g lt h
    subst g
    exact ⟨h.symm, by omega⟩
theorem rngL_len (n : Int) : (rngL n).length = n.toNat := by simp [rngL]
section
variable {T : Tab} {Φ : Funs} {Γ : Env'} {H : Hp} {QS : Env' → Hp → Prop} {R : Val → Hp → Prop} {ES : Nat → Env' → Hp → Prop}
theorem wps_seq {s : MS} {ss : MSs} (P : Env' → Hp → Prop) (h : wpS T Φ s Γ H P R ES) (q : ∀ Γ H, P Γ H → wpSs T Φ ss Γ H QS R ES) : wpSs T Φ (.cons s ss) Γ H QS R ES := by
  skip; exact wpS_mono h q (fun _ _ h => h) (fun _ _ _ h => h)
theorem wps_asg {i : Nat} {e : ME} {ss : MSs} (P : Val → Hp → Prop) (h : wpE T Φ e Γ H P NoE) (q : ∀ v H, P v H → wpSs T Φ ss (Γ.set i (some v)) H QS R ES) : wpSs T Φ (.cons (.assign i e) ss) Γ H QS R ES := by
  skip; exact wpE_then h q
theorem wps_ex {e : ME} {ss : MSs} (P : Hp → Prop) (h : wpE T Φ e Γ H (fun _ H => P H) NoE) (q : ∀ H, P H → wpSs T Φ ss Γ H QS R ES) : wpSs T Φ (.cons (.expr e) ss) Γ H QS R ES := by
  skip; exact wpE_then h (fun _ => q)
theorem wps_no {c : ME} {t ss : MSs} (P : Hp → Prop) (h : wpE T Φ c Γ H (fun v H => v = .bool false ∧ P H) NoE) (q : ∀ H, P H → wpSs T Φ ss Γ H QS R ES) : wpSs T Φ (.cons (.ite c t .nil) ss) Γ H QS R ES := by
  refine wpE_then h ?_
  rintro v H ⟨rfl, p⟩
  exact q H p
theorem wps_eachR {i : Nat} {e : ME} {body : MSs} {n : Int} (I : Nat → Env' → Hp → Prop)
    (he : wpE T Φ e Γ H (fun v H' => v = .int n ∧ H' = H) NoE) (hn : -1073741824 ≤ n ∧ n ≤ 1073741824) (h0 : I 0 Γ H)
    (hs : ∀ (k : Nat) Γ H, (k : Int) < n → I k Γ H → wpSs T Φ body (Γ.set i (some (.int k))) H (I (k + 1)) R ES)
    (hd : ∀ Γ H, I n.toNat Γ H → QS Γ H) : wpS T Φ (.each i (.bf .range (.cons e .nil)) body) Γ H QS R ES := by
  apply wps_each
  rw [wp_bf, wp_cons]
  refine wpE_then he ?_
  rintro v H' ⟨rfl, rfl⟩
  rw [wp_nil, wv_range]
  refine ⟨hn, ?_⟩
  show WpS (eachL (chk none (rngL n)) _ _ (rngL n) _ _) _ _ _
  refine wps_eachN I h0 ?_ (fun _ _ _ _ _ => rfl) ?_
  · rw [rngL_len]; exact hd
  · intro k x Γ H hx hi
    obtain ⟨hr0, lt⟩ := rngL_get hx; refine Eq.symm hr0 ▸ ?_
    exact ⟨_, rfl, hs k Γ H lt hi⟩
end
end Mine.Pure
-- part LE
namespace Mine.Pure
open PySem
section
variable {T : Tab} {Φ : Funs} {Γ : Env'} {H : Hp} {QS : Env' → Hp → Prop} {R : Val → Hp → Prop} {ES : Nat → Env' → Hp → Prop}
theorem wps_hit {c d i : Nat} {body : MSs} {hs : MHs} (h0 : (T.isExc c && T.isExc d && calmSs (calmFn T) body) = true) (h1 : T.sub c d = true) (h : wpSs T Φ body (Γ.set i (some (.exc c))) H (fun _ _ => False) R NoX) : WpS (execH T Φ (.cons d (some i) body hs) c Γ H) QS R ES := by
  rw [← wpSs_eq] at h
  show WpS (if (T.isExc c && T.isExc d && calmSs (calmFn T) body) = false then .bad else if T.sub c d = true then _ else _) QS R ES
  rw [h0, if_neg (by decide), if_pos h1]
  show WpS (match execSs T Φ body (Γ.set i (some (.exc c))) H with
      | .ret v H' => .ret v H'
      | _ => .bad) QS R ES
  generalize execSs T Φ body (Γ.set i (some (.exc c))) H = r at h
  cases r <;> exact h
end
end Mine.Pure
-- part LG
namespace Mine.Pure
open PySem
structure GAt (H : Hp) (l b s : Nat) (g : List (List Val)) : Prop where
  top : H[l]? = some (.list ((List.range g.length).map fun i => .loc (b + s * i)))
  row : ∀ i r, g[i]? = some r → H[b + s * i]? = some (.list r)
theorem GAt.ext {H H' : Hp} {l b s : Nat} {g : List (List Val)} (x : GAt H l b s g) (e : Ext H H') : GAt H' l b s g := ⟨e.get x.top, fun i r h => e.get (x.row i r h)⟩
theorem GAt.other {H : Hp} {l b s m : Nat} {g : List (List Val)} (x : GAt H l b s g) (o : HObj) (h1 : m ≠ l) (h2 : ∀ i, i < g.length → m ≠ b + s * i) : GAt (H.set m o) l b s g :=
  ⟨get_other o h1 x.top, fun i r h => get_other o (h2 i (List.getElem?_eq_some_iff.mp h).1) (x.row i r h)⟩
theorem GAt.item {H : Hp} {l b s : Nat} {g : List (List Val)} (x : GAt H l b s g) {i : Nat} (h : i < g.length) : ((List.range g.length).map fun i => Val.loc (b + s * i))[i]? = some (.loc (b + s * i)) := by
  rw [List.getElem?_map, List.getElem?_range h]; rfl
section
variable {T : Tab} {Φ : Funs} {Γ : Env'} {H : Hp} {Q : Val → Hp → Prop} {E : Nat → Hp → Prop}
theorem wp_compN {chk : Hp → Bool} {step : Val → M (Option Val)} {Q : List Val → Hp → Prop} {xs : List Val} (I : Nat → List Val → Hp → Prop) (h0 : I 0 [] H) (hc : ∀ k out H, I k out H → chk H = true)
    (hs : ∀ k x out H, xs[k]? = some x → I k out H → Wp (step x) H (fun r H => I (k + 1) (out ++ r.toList) H) E) (hd : ∀ zs H, I xs.length zs H → Q zs H) : Wp (compL chk step xs) H Q E := by
  refine wp_compL (fun ys out H => ∃ k, ys = xs.drop k ∧ k ≤ xs.length ∧ I k out H) xs [] H ⟨0, rfl, Nat.zero_le _, h0⟩ ?_ ?_ ?_
  · rintro ys out H ⟨k, _, _, h⟩; exact hc k out H h
  · intro x ys out H zz
    obtain ⟨k, e, l, h⟩ := zz
    have hx : xs[k]? = some x := by
      have := congrArg (fun z => z[0]?) e
      simpa using this.symm
    refine (hs k x out H hx h).mono ?_ (fun _ _ h => h)
    intro r H h
    refine ⟨k + 1, ?_, (List.getElem?_eq_some_iff.mp hx).1, h⟩
    have := congrArg List.tail e
    simpa using this
  · intro zs H zz
    obtain ⟨k, e, l, h⟩ := zz
    have : k = xs.length := by
      have := congrArg List.length e
      simp at this; omega
    subst this; exact hd _ _ h
theorem comp_pure {elt it : ME} {xs : List Val} {src : Option Nat} (P : Nat → Val → Prop) (hit : wpE T Φ it Γ H (fun v H' => H' = H ∧ iterOf v H = some (xs, src)) NoE) (hck : chk src xs H = true) (hz : xs.length < lid)
    (he : ∀ k x, xs[k]? = some x → wpE T Φ elt (Γ ++ [some x]) H (fun v H' => P k v ∧ H' = H) NoE) (q : ∀ ys, ys.length = xs.length → (∀ k v, ys[k]? = some v → P k v) → Q (.loc H.length) (H ++ [.list ys])) : wpE T Φ (.comp elt it .none) Γ H Q E := by
  refine wp_comp (wpE_then hit ?_)
  rintro v H' ⟨e, hi⟩
  rw [e, hi]
  clear e
  refine wp_compN (fun k out H' => H' = H ∧ out.length = k ∧ ∀ j v, out[j]? = some v → P j v) ⟨rfl, rfl, fun j v h => by cases h⟩ ?_ ?_ ?_
  · rintro k out _ ⟨hr0, _⟩; refine Eq.symm hr0 ▸ ?_; exact hck
  · rintro k x out _ hx ⟨hr1, hl, hp⟩; refine Eq.symm hr1 ▸ ?_
    refine wp_step0 (wpE_then (he k x hx) ?_)
    rintro v _ ⟨hv, hr2⟩; refine hr2 ▸ ?_
    refine ⟨rfl, by rw [List.length_append, hl]; rfl, fun j w hj => ?_⟩
    by_cases c : j < out.length
    · rw [List.getElem?_append_left c] at hj; exact hp j w hj
    · rw [List.getElem?_append_right (by omega)] at hj
      have : j - out.length = 0 := by
        have := (List.getElem?_eq_some_iff.mp hj).1
        simp at this; omega
      rw [this] at hj
      cases hj
      have : j = k := by omega
      rw [this]; exact hv
  · rintro zs _ ⟨hr3, hl, hp⟩; refine Eq.symm hr3 ▸ ?_
    have hl : zs.length = xs.length := hl
    exact ⟨by omega, q zs hl hp⟩
theorem comp_rows {elt it : ME} {xs : List Val} {src : Option Nat} (s : Nat) (P : Nat → List Val → Prop) (hit : wpE T Φ it Γ H (fun v H' => H' = H ∧ iterOf v H = some (xs, src)) NoE) (hck : ∀ K, Ext H K → chk src xs K = true) (hz : xs.length < lid)
    (he : ∀ k x K, xs[k]? = some x → Ext H K → wpE T Φ elt (Γ ++ [some x]) K (fun v K' => ∃ r, P k r ∧ v = .loc (K.length + s) ∧ Ext K K' ∧ K'.length = K.length + s + 1 ∧ K'[K.length + s]? = some (.list r)) NoE)
    (q : ∀ g K, g.length = xs.length → (∀ k r, g[k]? = some r → P k r) → Ext H K → GAt K (H.length + (s + 1) * g.length) (H.length + s) (s + 1) g → K.length = H.length + (s + 1) * g.length + 1 → Q (.loc (H.length + (s + 1) * g.length)) K) : wpE T Φ (.comp elt it .none) Γ H Q E := by
  refine wp_comp (wpE_then hit ?_)
  rintro v H' ⟨e, hi⟩
  rw [e, hi]
  clear e
  refine wp_compN (fun k out K => Ext H K ∧ K.length = H.length + (s + 1) * k ∧ out = (List.range k).map (fun i => Val.loc (H.length + s + (s + 1) * i)) ∧ ∃ g : List (List Val), g.length = k ∧ (∀ j r, g[j]? = some r → P j r ∧ K[H.length + s + (s + 1) * j]? = some (.list r)))
    ⟨Ext.refl H, rfl, rfl, [], rfl, fun j r h => by cases h⟩ ?_ ?_ ?_
  · rintro k out K ⟨e, _⟩; exact hck K e
  · intro k x out K hx zz
    obtain ⟨e, hl, rfl, g, hg, hp⟩ := zz
    refine wp_step0 (wpE_then (he k x K hx e) ?_)
    intro v K' zz
    obtain ⟨r, pr, rfl, e', hl', hr⟩ := zz
    have pos : K.length + s = H.length + s + (s + 1) * k := by omega
    refine ⟨e.trans e', by rw [hl', hl, Nat.mul_succ]; omega, ?_, g ++ [r], by rw [List.length_append, hg]; rfl, fun j w hj => ?_⟩
    · rw [List.range_succ, List.map_append, pos]; rfl
    · by_cases c : j < g.length
      · rw [List.getElem?_append_left c] at hj
        exact ⟨(hp j w hj).1, e'.get (hp j w hj).2⟩
      · rw [List.getElem?_append_right (by omega)] at hj
        have : j - g.length = 0 := by
          have := (List.getElem?_eq_some_iff.mp hj).1
          simp at this; omega
        rw [this] at hj
        cases hj
        have : j = k := by omega
        rw [this, ← pos]; exact ⟨pr, hr⟩
  · intro zs K zz
    obtain ⟨e, hl, rfl, g, hg, hp⟩ := zz
    have gl : g.length = xs.length := hg
    refine ⟨by rw [List.length_map, List.length_range]; exact hz, ?_⟩
    rw [hl, ← gl]
    refine q g _ gl (fun k r h => (hp k r h).1) (e.new _) ⟨?_, fun i r h => Ext.get ⟨_, rfl⟩ (hp i r h).2⟩ (by rw [List.length_append, hl, ← gl]; rfl)
    have := get_new K (.list ((List.range g.length).map fun i => Val.loc (H.length + s + (s + 1) * i)))
    rw [hl, ← gl] at this
    exact this
theorem it_rng {it : ME} {n : Nat} (hn : n ≤ 1000) (h : wpE T Φ it Γ H (fun v H' => v = .int (n : Int) ∧ H' = H) NoE) : wpE T Φ (.bf .range (.cons it .nil)) Γ H (fun v H' => H' = H ∧ iterOf v H = some (rngL n, none)) NoE := by
  rw [wp_bf, wp_cons]
  refine wpE_then h ?_
  rintro v _ ⟨rfl, rfl⟩
  rw [wp_nil, wv_range]
  exact ⟨⟨by omega, by omega⟩, rfl, rfl⟩
theorem wp_copy {it : ME} {k l b s : Nat} {g : List (List Val)} (hk : Γ.length = k) (G : GAt H l b s g) (hz : g.length < lid) (hit : wpE T Φ it Γ H (fun v H' => v = .loc l ∧ H' = H) NoE)
    (q : ∀ K, Ext H K → GAt K (H.length + g.length) H.length 1 g → K.length = H.length + g.length + 1 → Q (.loc (H.length + g.length)) K) : wpE T Φ (.comp (.bf .list (.cons (.var k) .nil)) it .none) Γ H Q E := by
  refine comp_rows (xs := (List.range g.length).map fun i => Val.loc (b + s * i)) (src := some l) 0 (fun j r => g[j]? = some r) (wpE_then hit ?_) (fun K e => chk_list (e.get G.top)) (by rw [List.length_map, List.length_range]; exact hz) ?_ ?_
  · rintro v _ ⟨rfl, rfl⟩; exact ⟨rfl, iter_list G.top⟩
  · intro j x K hx e
    rw [List.getElem?_map] at hx
    cases hj : (List.range g.length)[j]? with
    | none => rw [hj] at hx; exact nomatch hx
    | some i =>
      rw [hj] at hx
      obtain ⟨lt, ej⟩ := List.getElem?_eq_some_iff.mp hj
      rw [List.getElem_range] at ej
      subst ej
      cases hx
      have lt' : j < g.length := by rw [List.length_range] at lt; exact lt
      have hg : g[j]? = some g[j] := List.getElem?_eq_getElem lt'
      have hr := e.get (G.row j _ hg)
      rw [wp_bf, wp_cons, wp_var, getV_get, List.getElem?_append_right (by omega), hk, Nat.sub_self]
      have : bfV .list [.loc (b + s * j)] K = .ok (.loc K.length) (K ++ [.list g[j]]) := by
        show (match itemsOf (.loc (b + s * j)) K with | some xs => M.alloc (.list xs) K | none => .bad) = _
        rw [show itemsOf (.loc (b + s * j)) K = some g[j] by simp only [itemsOf, hr]]; rfl
      exact Wp.of_eq this ⟨_, hg, rfl, ⟨_, rfl⟩, by rw [List.length_append]; rfl, get_new K _⟩
  · intro g' K hl hp e G' hK
    have : g' = g := by
      rw [List.length_map, List.length_range] at hl
      refine List.ext_getElem? fun i => ?_
      cases h : g'[i]? with
      | some r => rw [hp i r h]
      | none =>
        rw [List.getElem?_eq_none_iff] at h
        rw [List.getElem?_eq_none (by omega)]
    subst this
    rw [Nat.zero_add, Nat.one_mul] at G' hK ⊢
    exact q K e G' hK
end
end Mine.Pure
-- part GT13
namespace Mine
open PySem
noncomputable def f0_13 : MFun := ⟨3, 0, (.cons (.ite (.or (.not (.isinst (.var 0) .int)) (.isinst (.var 0) .bool)) (.cons (.ret (.some (.bool false))) .nil) .nil) (.cons (.ret (.some (.cmp2 .le .le (.var 1) (.var 0) (.var 2)))) .nil))⟩
noncomputable def f1_13 : MFun := ⟨3, 0, (.cons (.ite (.or (.not (.isinst (.var 2) .tuple)) (.cmp .ne (.bf .len (.cons (.var 2) .nil)) (.int 2))) (.cons (.ret (.some (.bool false))) .nil) .nil) (.cons (.ret (.some (.and (.call 0 (.cons (.sub (.var 2) (.int 0)) (.cons (.int 0) (.cons (.bin .sub (.var 0) (.int 1)) .nil)))) (.call 0 (.cons (.sub (.var 2) (.int 1)) (.cons (.int 0) (.cons (.bin .sub (.var 1) (.int 1)) .nil))))))) .nil))⟩
noncomputable def f2_13 : MFun := ⟨2, 3, (.cons (.assign 2 (.list .nil)) (.cons (.each 3 (.bf .range (.cons (.var 0) .nil)) (.cons (.each 4 (.bf .range (.cons (.var 1) .nil)) (.cons (.expr (.bm (.var 2) .append (.cons (.tup (.cons (.var 3) (.cons (.var 4) .nil))) .nil))) .nil)) .nil)) (.cons (.ret (.some (.var 2))) .nil)))⟩
noncomputable def f3_13 : MFun := ⟨1, 0, (.cons (.ret (.some (.or (.cmp .is (.var 0) .none) (.call 0 (.cons (.var 0) (.cons (.int 0) (.cons (.glob 1) .nil))))))) .nil)⟩
noncomputable def f4_13 : MFun := ⟨1, 1, (.cons (.ite (.or (.not (.isinst (.var 0) .list)) (.not (.call 0 (.cons (.bf .len (.cons (.var 0) .nil)) (.cons (.int 1) (.cons (.glob 0) .nil)))))) (.cons (.raise 1 "a list of rows is wanted") .nil) .nil) (.cons (.each 1 (.var 0) (.cons (.ite (.or (.not (.isinst (.var 1) .list)) (.not (.call 0 (.cons (.bf .len (.cons (.var 1) .nil)) (.cons (.int 1) (.cons (.glob 0) .nil)))))) (.cons (.raise 1 "a row is a list of heights") .nil) .nil) .nil)) (.cons (.each 1 (.var 0) (.cons (.ite (.cmp .ne (.bf .len (.cons (.var 1) .nil)) (.bf .len (.cons (.sub (.var 0) (.int 0)) .nil))) (.cons (.raise 1 "all rows are as long") .nil) .nil) .nil)) .nil)))⟩
noncomputable def f5_13 : MFun := ⟨1, 2, (.cons (.ite (.or (.cmp .eq (.var 0) (.str "")) (.cmp .gt (.bf .len (.cons (.var 0) .nil)) (.bf .len (.cons (.bf .str (.cons (.glob 1) .nil)) .nil)))) (.cons (.raise 1 "no height") .nil) .nil) (.cons (.each 1 (.var 0) (.cons (.ite (.cmp .notin (.var 1) (.glob 2)) (.cons (.raise 1 "no height") .nil) .nil) .nil)) (.cons (.ite (.and (.cmp .eq (.sub (.var 0) (.int 0)) (.str "0")) (.cmp .gt (.bf .len (.cons (.var 0) .nil)) (.int 1))) (.cons (.raise 1 "no height") .nil) .nil) (.cons (.assign 2 (.bf .int (.cons (.var 0) .nil))) (.cons (.ite (.cmp .gt (.var 2) (.glob 1)) (.cons (.raise 1 "too great a height") .nil) .nil) (.cons (.ret (.some (.var 2))) .nil))))))⟩
noncomputable def f6_13 : MFun := ⟨1, 10, (.cons (.ite (.not (.isinst (.var 0) .str)) (.cons (.raise 1 "a text is wanted") .nil) .nil) (.cons (.assign 1 (.list .nil)) (.cons (.assign 2 (.list .nil)) (.cons (.assign 3 (.bm (.var 0) .split (.cons (.str "\n") .nil))) (.cons (.ite (.cmp .gt (.bf .len (.cons (.var 3) .nil)) (.glob 0)) (.cons (.raise 1 "too many rows") .nil) .nil) (.cons (.eachEnum 4 5 (.var 3) (.cons (.assign 6 (.list .nil)) (.cons (.eachEnum 7 8 (.bm (.var 5) .split (.cons (.str " ") .nil)) (.cons (.ite (.cmp .eq (.var 8) (.str "#")) (.cons (.expr (.bm (.var 6) .append (.cons .none .nil))) .nil) (.cons (.ite (.cmp .eq (.slice (.var 8) (.some (.neg (.int 1))) .none) (.str "*")) (.cons (.expr (.bm (.var 6) .append (.cons (.call 5 (.cons (.slice (.var 8) .none (.some (.neg (.int 1)))) .nil)) .nil))) (.cons (.expr (.bm (.var 2) .append (.cons (.tup (.cons (.var 4) (.cons (.var 7) .nil))) .nil))) .nil)) (.cons (.expr (.bm (.var 6) .append (.cons (.call 5 (.cons (.var 8) .nil)) .nil))) .nil)) .nil)) .nil)) (.cons (.expr (.bm (.var 1) .append (.cons (.var 6) .nil))) .nil)))) (.cons (.assign 9 (.new 7 (.cons (.var 1) .nil))) (.cons (.each 10 (.var 2) (.cons (.expr (.umeth (.var 9) 3 (.cons (.var 10) .nil))) .nil)) (.cons (.ret (.some (.var 9))) .nil)))))))))⟩
noncomputable def f7_13 : MFun := ⟨2, 0, (.cons (.ite (.cmp .lt (.var 1) (.bf .len (.cons (.var 0) .nil))) (.cons (.ret (.some (.sub (.var 0) (.var 1)))) .nil) .nil) (.cons (.ret (.some (.int 0))) .nil))⟩
noncomputable def f8_13 : MFun := ⟨1, 1, (.cons (.ite (.cmp .eq (.var 0) (.str "#")) (.cons (.ret (.some .none)) .nil) .nil) (.cons (.ite (.and (.cmp .gt (.bf .len (.cons (.var 0) .nil)) (.int 0)) (.cmp .eq (.sub (.var 0) (.neg (.int 1))) (.str "*"))) (.cons (.assign 0 (.slice (.var 0) .none (.some (.neg (.int 1))))) .nil) .nil) (.cons (.ite (.or (.cmp .eq (.bf .len (.cons (.var 0) .nil)) (.int 0)) (.or (.cmp .gt (.bf .len (.cons (.var 0) .nil)) (.int 10)) (.and (.cmp .gt (.bf .len (.cons (.var 0) .nil)) (.int 1)) (.cmp .eq (.sub (.var 0) (.int 0)) (.str "0"))))) (.cons (.ret (.some (.neg (.int 1)))) .nil) .nil) (.cons (.each 1 (.var 0) (.cons (.ite (.cmp .notin (.var 1) (.str "0123456789")) (.cons (.ret (.some (.neg (.int 1)))) .nil) .nil) .nil)) (.cons (.ite (.cmp .gt (.bf .int (.cons (.var 0) .nil)) (.int 1000000000)) (.cons (.ret (.some (.neg (.int 1)))) .nil) .nil) (.cons (.ret (.some (.bf .int (.cons (.var 0) .nil)))) .nil))))))⟩
noncomputable def f9_13 : MFun := ⟨1, 7, (.cons (.assign 1 (.list .nil)) (.cons (.assign 2 (.list .nil)) (.cons (.each 3 (.bm (.var 0) .split (.cons (.str "\n") .nil)) (.cons (.assign 4 (.bm (.var 3) .split (.cons (.str " ") .nil))) (.cons (.expr (.bm (.var 1) .append (.cons (.comp (.call 8 (.cons (.var 8) .nil)) (.var 4) .none) .nil))) (.cons (.eachEnum 5 6 (.var 4) (.cons (.ite (.and (.cmp .gt (.bf .len (.cons (.var 6) .nil)) (.int 1)) (.cmp .eq (.sub (.var 6) (.neg (.int 1))) (.str "*"))) (.cons (.expr (.bm (.var 2) .append (.cons (.tup (.cons (.bin .sub (.bf .len (.cons (.var 1) .nil)) (.int 1)) (.cons (.var 5) .nil))) .nil))) .nil) .nil) .nil)) .nil)))) (.cons (.each 7 (.var 1) (.cons (.ite (.or (.cmp .isin (.neg (.int 1)) (.var 7)) (.or (.cmp .ne (.bf .len (.cons (.var 7) .nil)) (.bf .len (.cons (.sub (.var 1) (.int 0)) .nil))) (.or (.cmp .gt (.bf .len (.cons (.var 7) .nil)) (.int 30)) (.cmp .gt (.bf .len (.cons (.var 1) .nil)) (.int 30))))) (.cons (.ret (.some .none)) .nil) .nil) .nil)) (.cons (.ret (.some (.tup (.cons (.var 1) (.cons (.var 2) .nil))))) .nil)))))⟩
noncomputable def f10_13 : MFun := ⟨1, 1, (.cons (.assign 1 (.str "")) (.cons (.ite (.isinst (.var 0) (.cls 1)) (.cons (.assign 1 (.bin .add (.var 1) (.str "land "))) .nil) .nil) (.cons (.ite (.isinst (.var 0) (.cls 2)) (.cons (.assign 1 (.bin .add (.var 1) (.str "height "))) .nil) .nil) (.cons (.ite (.isinst (.var 0) (.cls 3)) (.cons (.assign 1 (.bin .add (.var 1) (.str "cell "))) .nil) .nil) (.cons (.ite (.isinst (.var 0) (.cls 4)) (.cons (.assign 1 (.bin .add (.var 1) (.str "drain "))) .nil) .nil) (.cons (.ite (.isinst (.var 0) (.cls 5)) (.cons (.assign 1 (.bin .add (.var 1) (.str "way "))) .nil) .nil) (.cons (.ite (.isinst (.var 0) (.cls 6)) (.cons (.assign 1 (.bin .add (.var 1) (.str "rain "))) .nil) .nil) (.cons (.ite (.isinst (.var 0) (.cls 8)) (.cons (.ret (.some (.bm (.var 1) .rstrip .nil))) .nil) .nil) (.cons (.ret (.some (.str "another base"))) .nil)))))))))⟩
noncomputable def f11_13 : MFun := ⟨1, 1, (.cons (.tryx (.cons (.expr (.call 6 (.cons (.var 0) .nil))) .nil) (.cons 0 (some 1) (.cons (.ret (.some (.cmp .eq (.call 10 (.cons (.var 1) .nil)) (.str "land")))) .nil) .nil)) (.cons (.ret (.some (.bool false))) .nil))⟩
noncomputable def f12_13 : MFun := ⟨1, 2, (.cons (.tryx (.cons (.assign 1 (.call 6 (.cons (.var 0) .nil))) .nil) (.cons 0 (some 2) (.cons (.ite (.cmp .eq (.call 10 (.cons (.var 2) .nil)) (.str "land")) (.cons (.ret (.some .none)) .nil) .nil) (.cons (.ret (.some (.str "another refusal"))) .nil)) .nil)) (.cons (.ret (.some (.tup (.cons (.umeth (.var 1) 5 .nil) (.cons (.umeth (.var 1) 4 .nil) .nil))))) .nil))⟩
noncomputable def f13_13 : MFun := ⟨1, 6, (.cons (.assign 1 (.list .nil)) (.cons (.each 2 (.bf .range (.cons (.bin .add (.int 1) (.bin .mod (.call 7 (.cons (.var 0) (.cons (.int 0) .nil))) (.int 4))) .nil)) (.cons (.assign 3 (.list .nil)) (.cons (.each 4 (.bf .range (.cons (.bin .add (.int 1) (.bin .mod (.bin .fdiv (.call 7 (.cons (.var 0) (.cons (.int 0) .nil))) (.int 4)) (.int 4))) .nil)) (.cons (.assign 5 (.call 7 (.cons (.var 0) (.cons (.bin .add (.bin .add (.int 4) (.bin .mul (.var 2) (.int 4))) (.var 4)) .nil)))) (.cons (.assign 6 (.list (.cons (.str "#") (.cons (.bf .str (.cons (.bin .mod (.bin .fdiv (.var 5) (.int 6)) (.int 1000000001)) .nil)) (.cons (.bin .add (.bf .str (.cons (.bin .mod (.bin .fdiv (.var 5) (.int 6)) (.int 12)) .nil)) (.str "*")) .nil))))) (.cons (.expr (.bm (.var 3) .append (.cons (.sub (.bin .add (.var 6) (.list (.cons (.str "1000000000") (.cons (.str "0") (.cons (.str "0*") .nil))))) (.bin .mod (.var 5) (.int 6))) .nil))) .nil)))) (.cons (.expr (.bm (.var 1) .append (.cons (.var 3) .nil))) .nil)))) (.cons (.ret (.some (.var 1))) .nil)))⟩
noncomputable def f14_13 : MFun := ⟨1, 8, (.cons (.assign 1 (.call 13 (.cons (.var 0) .nil))) (.cons (.assign 2 (.call 7 (.cons (.var 0) (.cons (.int 1) .nil)))) (.cons (.assign 3 (.call 7 (.cons (.var 0) (.cons (.int 2) .nil)))) (.cons (.assign 4 (.list (.cons (.str "") (.cons (.str "*") (.cons (.str "#*") (.cons (.str "**") (.cons (.str "1**") (.cons (.str "*1") (.cons (.str "01") (.cons (.str "00") (.cons (.str "-1") .nil))))))))))) (.cons (.assign 4 (.bin .add (.var 4) (.list (.cons (.str "+1") (.cons (.str "1000000001") (.cons (.str "00000000001") (.cons (.str "a") (.cons (.str "9999999999") (.cons (.str " ") (.cons (.str "1000000002") .nil)))))))))) (.cons (.ite (.cmp .eq (.bin .mod (.var 3) (.int 4)) (.int 0)) (.cons (.setitem (.sub (.var 1) (.bin .mod (.var 2) (.bf .len (.cons (.var 1) .nil)))) (.bin .mod (.bin .fdiv (.var 2) (.int 4)) (.bf .len (.cons (.sub (.var 1) (.int 0)) .nil))) (.sub (.bin .add (.var 4) (.list (.cons (.str "# ") (.cons (.str "##") .nil)))) (.bin .mod (.bin .fdiv (.var 2) (.int 16)) (.int 18)))) .nil) .nil) (.cons (.ite (.cmp .eq (.bin .mod (.var 3) (.int 4)) (.int 1)) (.cons (.assign 1 (.comp (.sub (.var 1) (.int 0)) (.bf .range (.cons (.bin .add (.int 30) (.bin .mod (.var 2) (.int 2))) .nil)) .none)) .nil) .nil) (.cons (.ite (.and (.cmp .eq (.bin .mod (.var 3) (.int 4)) (.int 2)) (.cmp .eq (.bin .mod (.bin .fdiv (.var 3) (.int 4)) (.int 2)) (.int 0))) (.cons (.assign 1 (.comp (.comp (.sub (.var 9) (.int 0)) (.bf .range (.cons (.bin .add (.int 30) (.bin .mod (.var 2) (.int 2))) .nil)) .none) (.var 1) .none)) .nil) .nil) (.cons (.assign 5 (.bm (.str "\n") .join (.cons (.comp (.bm (.str " ") .join (.cons (.var 9) .nil)) (.var 1) .none) .nil))) (.cons (.ite (.cmp .eq (.bin .mod (.var 3) (.int 4)) (.int 3)) (.cons (.assign 6 (.str " \n#*0123456789a-.+\t_!\"$&'(),/:;<=>?@ABCDEFGHIJKLMNOPQRSTUVWXYZ[\\]^`")) (.cons (.assign 6 (.bin .add (.var 6) (.str "bcdefghijklmnopqrstuvwxyz{|}~"))) (.cons (.assign 7 (.sub (.var 6) (.bin .mod (.bin .fdiv (.var 2) (.int 3)) (.bf .len (.cons (.var 6) .nil))))) (.cons (.assign 8 (.bin .mod (.bin .fdiv (.var 2) (.int 291)) (.bin .add (.bf .len (.cons (.var 5) .nil)) (.int 1)))) (.cons (.assign 5 (.bin .add (.bin .add (.slice (.var 5) .none (.some (.var 8))) (.sub (.list (.cons (.var 7) (.cons (.str "") (.cons (.var 7) .nil)))) (.bin .mod (.var 2) (.int 3)))) (.slice (.var 5) (.some (.bin .add (.var 8) (.sub (.list (.cons (.int 0) (.cons (.int 1) (.cons (.int 1) .nil)))) (.bin .mod (.var 2) (.int 3))))) .none))) .nil))))) .nil) (.cons (.ret (.some (.var 5))) .nil)))))))))))⟩
noncomputable def f15_13 : MFun := ⟨1, 3, (.cons (.assign 1 (.call 14 (.cons (.var 0) .nil))) (.cons (.assign 2 (.call 9 (.cons (.var 1) .nil))) (.cons (.assign 3 (.call 12 (.cons (.var 1) .nil))) (.cons (.ite (.and (.cmp .is (.var 2) .none) (.not (.call 11 (.cons (.var 1) .nil)))) (.cons (.ret (.some (.bool false))) .nil) .nil) (.cons (.ite (.not (.call 11 (.cons (.sub (.list (.cons .none (.cons (.int 7) (.cons (.bool true) (.cons (.list (.cons (.str "1") .nil)) .nil))))) (.bin .mod (.call 7 (.cons (.var 0) (.cons (.int 3) .nil))) (.int 4))) .nil))) (.cons (.ret (.some (.bool false))) .nil) .nil) (.cons (.ret (.some (.cmp .eq (.var 3) (.var 2)))) .nil))))))⟩
noncomputable def f16_13 : MFun := ⟨2, 2, (.cons (.expr (.call 4 (.cons (.var 1) .nil))) (.cons (.each 2 (.var 1) (.cons (.each 3 (.var 2) (.cons (.ite (.not (.call 3 (.cons (.var 3) .nil))) (.cons (.raise 2 "a height or None is wanted") .nil) .nil) .nil)) .nil)) (.cons (.setattr (.var 0) 0 (.bf .len (.cons (.var 1) .nil))) (.cons (.setattr (.var 0) 1 (.bf .len (.cons (.sub (.var 1) (.int 0)) .nil))) (.cons (.setattr (.var 0) 2 (.comp (.bf .list (.cons (.var 4) .nil)) (.var 1) .none)) (.cons (.setattr (.var 0) 3 .dict) .nil))))))⟩
noncomputable def f17_13 : MFun := ⟨2, 0, (.cons (.ite (.not (.call 1 (.cons (.attr (.var 0) 0) (.cons (.attr (.var 0) 1) (.cons (.var 1) .nil))))) (.cons (.raise 3 "no such cell") .nil) .nil) .nil)⟩
noncomputable def f18_13 : MFun := ⟨2, 0, (.cons (.expr (.umeth (.var 0) 1 (.cons (.var 1) .nil))) (.cons (.ret (.some (.sub (.sub (.attr (.var 0) 2) (.sub (.var 1) (.int 0))) (.sub (.var 1) (.int 1))))) .nil))⟩
noncomputable def f19_13 : MFun := ⟨2, 0, (.cons (.expr (.umeth (.var 0) 1 (.cons (.var 1) .nil))) (.cons (.ite (.cmp .is (.sub (.sub (.attr (.var 0) 2) (.sub (.var 1) (.int 0))) (.sub (.var 1) (.int 1))) .none) (.cons (.raise 4 "stone is no drain") .nil) .nil) (.cons (.setitem (.attr (.var 0) 3) (.var 1) (.bool true)) .nil)))⟩
noncomputable def f20_13 : MFun := ⟨1, 0, (.cons (.ret (.some (.comp (.var 1) (.call 2 (.cons (.attr (.var 0) 0) (.cons (.attr (.var 0) 1) .nil))) (.some (.cmp .isin (.var 1) (.attr (.var 0) 3)))))) .nil)⟩
noncomputable def f21_13 : MFun := ⟨1, 0, (.cons (.ret (.some (.comp (.bf .list (.cons (.var 1) .nil)) (.attr (.var 0) 2) .none))) .nil)⟩
noncomputable def T_13 : Tab := ⟨[f0_13, f1_13, f2_13, f3_13, f4_13, f5_13, f6_13, f7_13, f8_13, f9_13, f10_13, f11_13, f12_13, f13_13, f14_13, f15_13, f16_13, f17_13, f18_13, f19_13, f20_13, f21_13], [[], [], [], [], [], [], [], [(0, 16), (1, 17), (2, 18), (3, 19), (4, 20), (5, 21)], []], [[0, 8], [1, 0, 8], [2, 0, 8], [3, 0, 8], [4, 0, 8], [5, 0, 8], [6, 0, 8], [7], [8]], [.int 30, .int 1000000000, .str "0123456789"]⟩
noncomputable def N_13 : Names := ⟨[("whole", 0), ("lies_in", 1), ("all_cells", 2), ("is_height", 3), ("look_at_rows", 4), ("height_of", 5), ("read", 6), ("_law_cell_at", 7), ("_law_height_of", 8), ("_law_land_of", 9), ("_law_word_of", 10), ("_law_is_refused", 11), ("_law_found", 12), ("_law_words", 13), ("_law_text", 14), ("law", 15)], [("LandError", 0), ("NoLand", 1), ("NoHeight", 2), ("NoCell", 3), ("NoDrain", 4), ("NoWay", 5), ("NoRain", 6), ("Land", 7), ("ValueError", 8)], [("MOST_SIDE", 0), ("MOST_HEIGHT", 1), ("FIGURES", 2)], [("rows", 0), ("columns", 1), ("grid", 2), ("sinks", 3)], [("__init__", 0), ("look_at", 1), ("height", 2), ("opened", 3), ("drains", 4), ("heights", 5)]⟩
noncomputable def V_13 : List (List Str) := [["thing", "low", "high"], ["rows", "columns", "cell"], ["rows", "columns", "found", "row", "column"], ["thing"], ["heights", "row"], ["figures", "sign", "number"], ["text", "grid", "drains", "lines", "row", "line", "cells", "column", "part", "land", "cell"], ["_law_script", "_law_k"], ["_law_word", "_law_sign"], ["_law_text_here", "_law_rows", "_law_drains", "_law_line", "_law_words_here", "_law_k", "_law_word", "_law_row"], ["_law_error", "_law_word"], ["_law_text_here", "_law_error"], ["_law_text_here", "_law_land", "_law_error"], ["_law_script", "_law_lines", "_law_row", "_law_words_here", "_law_column", "_law_cell", "_law_some"], ["_law_script", "_law_lines", "_law_cell", "_law_kind", "_law_some", "_law_text_here", "_law_signs", "_law_sign", "_law_at"], ["_law_script", "_law_text_here", "_law_due", "_law_found_here"], ["self", "heights", "row", "one"], ["self", "cell"], ["self", "cell"], ["self", "cell"], ["self"], ["self"]]
end Mine
-- part LTA
namespace Mine.Pure
open PySem
theorem getV_of {Γ : Env'} {i : Nat} {v : Val} {k : Val → Prop} (h : Γ[i]? = some (some v)) : getV Γ i k = k v := by rw [getV_get, h]; rfl
theorem hide3 {α β γ : Type} (p : α → β → γ → Prop) : ∃ q : α → β → γ → Prop, ∀ a b c, q a b c ↔ p a b c := ⟨p, fun _ _ _ => Iff.rfl⟩
section
variable {H : Hp} {Q : Val → Hp → Prop} {E : Nat → Hp → Prop} {d : Nat}
noncomputable def HV (v : Val) : Prop := v = .none ∨ ∃ i : Int, v = .int i ∧ 0 ≤ i ∧ i ≤ 1000000000
theorem globs_0 : T_13.globs[0]? = some (.int 30) := rfl
theorem globs_1 : T_13.globs[1]? = some (.int 1000000000) := rfl
theorem l13_whole {x lo hi : Int} (h1 : lo ≤ x) (h2 : x ≤ hi) : Wp (callF T_13 (d + 1) 0 [.int x, .int lo, .int hi]) H Q E = Q (.bool true) H := by
  rw [wp_call (g := f0_13) rfl rfl, f0_13]
  simp only [List.map_cons, List.map_nil, List.replicate_zero, List.cons_append, List.nil_append, ↓wps_cons, ↓wps_ite, ↓wp_or, ↓wp_not, ↓wp_isinst, ↓wp_var, ↓getV_zero, ↓wi_int_int, ↓asBool_bool, ↓brB_not, ↓brB_true, ↓wi_int_bool, ↓brB_false, ↓wps_nil, ↓wps_ret, ↓wp_oSome, ↓wp_cmp2, ↓getV_succ, ↓go_le, decide_eq_true h1, decide_eq_true h2]
theorem l13_lies {r c i j : Int} (h1 : 0 ≤ i) (h2 : i < r) (h3 : 0 ≤ j) (h4 : j < c) : Wp (callF T_13 (d + 2) 1 [.int r, .int c, .tup [.int i, .int j]]) H Q E = Q (.bool true) H := by
  rw [wp_call (g := f1_13) rfl rfl, f1_13]
  simp only [List.map_cons, List.map_nil, List.replicate_zero, List.cons_append, List.nil_append, ↓wps_cons, ↓wps_ite, ↓wp_or, ↓wp_not, ↓wp_isinst, ↓wp_var, ↓getV_succ, ↓getV_zero, ↓wi_tup_tup, ↓asBool_bool, ↓brB_not, ↓brB_true, ↓wp_cmp, ↓wp_bf, ↓wp_cons, ↓wp_nil, ↓wv_len_tup, ↓wp_int, ↓go_ne, ↓wps_nil, ↓wps_ret, ↓wp_oSome, ↓wp_and, ↓wp_callE, ↓wp_sub, ↓ws_tup0, ↓wp_bin, ↓wv_sub, ↓ws_tup1, ↓wp_bool]
  rw [l13_whole h1 (by omega), asBool_bool, brB_true, l13_whole h3 (by omega)]
  rfl
theorem l13_height {v : Val} (h : HV v) : Wp (callF T_13 (d + 2) 3 [v]) H Q E = Q (.bool true) H := by
  rw [wp_call (g := f3_13) rfl rfl, f3_13]
  rcases h with rfl | ⟨i, rfl, h1, h2⟩
  · simp only [List.map_cons, List.map_nil, List.replicate_zero, List.cons_append, List.nil_append, ↓wps_cons, ↓wps_ret, ↓wp_oSome, ↓wp_or, ↓wp_cmp, ↓wp_var, ↓getV_zero, ↓wp_none, ↓go_isNone_none, ↓asBool_bool, ↓brB_true]
  · simp only [List.map_cons, List.map_nil, List.replicate_zero, List.cons_append, List.nil_append, ↓wps_cons, ↓wps_ret, ↓wp_oSome, ↓wp_or, ↓wp_cmp, ↓wp_var, ↓getV_zero, ↓wp_none, ↓go_isNone_int, ↓asBool_bool, ↓brB_false, ↓wp_callE, ↓wp_cons, ↓wp_int, ↓wp_glob, globs_1, ↓wp_nil, ↓getO_some]
    exact l13_whole h1 h2
end
noncomputable def cellAt (ns : List Int) (k : Nat) : Int := ns.getD k 0
section
variable {H : Hp} {Q : Val → Hp → Prop} {E : Nat → Hp → Prop} {d : Nat}
theorem ws_script {ns : List Int} {k : Nat} (h : k < ns.length) : Wp (subV (.script ns) (.int (k : Int))) H Q E = Q (.int (ns.getD k 0)) H := by
  have e : ns[k]? = some (ns.getD k 0) := by rw [List.getD_eq_getElem?_getD, List.getElem?_eq_getElem h]; rfl
  rw [sub_script e]; rfl
theorem l13_cell (ns : List Int) (k : Nat) : Wp (callF T_13 (d + 1) 7 [.script ns, .int (k : Int)]) H Q E = Q (.int (cellAt ns k)) H := by
  rw [wp_call (g := f7_13) rfl rfl, f7_13]
  simp only [List.map_cons, List.map_nil, List.replicate_zero, List.cons_append, List.nil_append, ↓wps_cons, ↓wps_ite, ↓wp_cmp, ↓wp_var, ↓getV_succ, ↓getV_zero, ↓wp_bf, ↓wp_cons, ↓wp_nil, ↓wv_len_script, ↓go_lt, ↓asBool_bool, ↓wps_ret, ↓wp_oSome, ↓wp_sub, ↓wps_nil, ↓wp_int]
  by_cases q : (k : Int) < ns.length
  · rw [brB_pos q, ws_script (by omega)]; rfl
  · rw [brB_neg q]
    show Q (.int 0) H = _
    rw [show cellAt ns k = 0 by unfold cellAt; rw [List.getD_eq_getElem?_getD, List.getElem?_eq_none (by omega)]; rfl]
noncomputable def OkS (r c : Nat) : Prop := 1 ≤ r ∧ r ≤ 30 ∧ 1 ≤ c ∧ c ≤ 30
theorem fmod_nat (a : Int) (n : Nat) (h : 0 < n) : ∃ k : Nat, Int.fmod a n = k ∧ k < n := by
  have h1 := Int.fmod_nonneg_of_pos a (show (0 : Int) < n by omega)
  have h2 := Int.fmod_lt_of_pos a (show (0 : Int) < n by omega)
  exact ⟨(Int.fmod a n).toNat, by omega, by omega⟩
end
end Mine.Pure
-- part LTC
namespace Mine.Pure
open PySem
structure OkG (g : List (List Val)) (r c : Nat) : Prop where
  len : g.length = r
  row : ∀ (i : Nat) (w : List Val), g[i]? = some w → w.length = c ∧ ∀ v ∈ w, HV v
section
variable {T : Tab} {Φ : Funs} {Γ : Env'} {H : Hp} {Q : Val → Hp → Prop} {E : Nat → Hp → Prop} {d : Nat} {QS : Env' → Hp → Prop} {R : Val → Hp → Prop} {ES : Nat → Env' → Hp → Prop}
end
end Mine.Pure
-- part LTD
namespace Mine.Pure
open PySem
section
variable {T : Tab} {Φ : Funs} {Γ : Env'} {H : Hp} {Q : Val → Hp → Prop} {E : Nat → Hp → Prop} {d : Nat} {QS : Env' → Hp → Prop} {R : Val → Hp → Prop} {ES : Nat → Env' → Hp → Prop}
noncomputable def rowCells (i c : Nat) : List Val := (List.range c).map fun (j : Nat) => .tup [.int (i : Int), .int (j : Int)]
noncomputable def cells (r c : Nat) : List Val := (List.range r).flatMap fun i => rowCells i c
theorem cells_succ (r c : Nat) : cells (r + 1) c = cells r c ++ rowCells r c := by
  unfold cells; rw [List.range_succ]; simp
theorem rowCells_succ (i c : Nat) : rowCells i (c + 1) = rowCells i c ++ [.tup [.int (i : Int), .int (c : Int)]] := by
  unfold rowCells; rw [List.range_succ, List.map_append]; rfl
theorem cells_len (r c : Nat) : (cells r c).length = r * c := by
  induction r with
  | zero => simp [cells]
  | succ r ih => rw [cells_succ, List.length_append, ih, rowCells, List.length_map, List.length_range, Nat.succ_mul]
theorem set_new (K : Hp) (a b : HObj) : (K ++ [a]).set K.length b = K ++ [b] := by
  rw [List.set_append_right _ _ (Nat.le_refl _), Nat.sub_self]; rfl
theorem l13_cells {r c : Nat} (hr : r ≤ 30) (hc : c ≤ 30) : Wp (callF T_13 (d + 1) 2 [.int (r : Int), .int (c : Int)]) H (fun v H' => v = .loc H.length ∧ H' = H ++ [.list (cells r c)]) NoE := by
  have hlid : lid = 16777216 := rfl
  rw [wp_call (g := f2_13) rfl rfl, f2_13]
  refine wps_asg (fun v H' => v = .loc H.length ∧ H' = H ++ [.list []]) ?_ ?_
  · simp only [↓wp_list, ↓wp_nil, and_self]
  rintro _ H1 ⟨rfl, e⟩
  rw [e]; clear e H1
  refine wps_seq (fun Γ H' => ∃ a b, Γ = [some (.int r), some (.int c), some (.loc H.length), a, b] ∧ H' = H ++ [.list (cells r c)]) ?_ ?_
  · refine wps_eachR (n := r) (fun k Γ K => ∃ a b, Γ = [some (.int r), some (.int c), some (.loc H.length), a, b] ∧ K = H ++ [.list (cells k c)] ∧ k ≤ r) ?_ ?_ ?_ ?_ ?_
    · simp only [↓wp_var, List.map_cons, List.map_nil, List.replicate_succ, List.replicate_zero, List.cons_append, List.nil_append, List.set_cons_succ, List.set_cons_zero, and_true, ↓getV_zero]
    · omega
    · exact ⟨_, _, rfl, rfl, Nat.zero_le _⟩
    · intro k Γ K hk zz
      obtain ⟨a, b, rfl, rfl, _⟩ := zz
      refine wps_seq (fun Γ K => ∃ a b, Γ = [some (.int r), some (.int c), some (.loc H.length), a, b] ∧ K = H ++ [.list (cells (k + 1) c)] ∧ k + 1 ≤ r) ?_ (fun Γ K h => by rw [wps_nil]; exact h)
      refine wps_eachR (n := c) (fun j Γ K => ∃ b, Γ = [some (.int r), some (.int c), some (.loc H.length), some (.int k), b] ∧ K = H ++ [.list (cells k c ++ rowCells k j)] ∧ j ≤ c) ?_ ?_ ?_ ?_ ?_
      · simp only [↓wp_var, List.set_cons_succ, List.set_cons_zero, and_true, ↓getV_succ, ↓getV_zero]
      · omega
      · exact ⟨_, rfl, by simp [rowCells], Nat.zero_le _⟩
      · intro j Γ K hj zz
        obtain ⟨b, rfl, rfl, _⟩ := zz
        refine wps_ex (fun K' => K' = H ++ [.list (cells k c ++ rowCells k (j + 1))]) ?_ ?_
        · refine wp_appendE rfl (get_new H _) ?_
          simp only [↓wp_tup, ↓wp_cons, ↓wp_var, List.set_cons_succ, List.set_cons_zero, ↓wp_nil, ↓getV_succ, ↓getV_zero]
          refine ⟨_, get_new H _, ?_, ?_⟩
          · rw [List.length_append, cells_len, rowCells, List.length_map, List.length_range]
            have := Nat.mul_le_mul (show k ≤ 30 by omega) hc
            omega
          · rw [set_new, List.append_assoc, ← rowCells_succ]
        · rintro K' rfl
          rw [wps_nil]
          exact ⟨_, rfl, rfl, by omega⟩
      · intro Γ K zz
        obtain ⟨b, rfl, e, _⟩ := zz
        rw [Int.toNat_natCast, ← cells_succ] at e
        exact ⟨_, _, rfl, e, by omega⟩
    · intro Γ K zz
      obtain ⟨a, b, e, e', _⟩ := zz
      rw [Int.toNat_natCast] at e'
      exact ⟨a, b, e, e'⟩
  intro Γ K zz
  obtain ⟨a, b, rfl, rfl⟩ := zz
  simp only [↓wps_cons, ↓wps_ret, ↓wp_oSome, ↓wp_var, ↓getV_succ, ↓getV_zero, and_self]
end
end Mine.Pure
-- part LTE
namespace Mine.Pure
open PySem
section
variable {T : Tab} {Φ : Funs} {Γ : Env'} {H : Hp} {Q : Val → Hp → Prop} {E : Nat → Hp → Prop} {d : Nat} {QS : Env' → Hp → Prop} {R : Val → Hp → Prop} {ES : Nat → Env' → Hp → Prop}
theorem wa_attr3 {i c n : Nat} {fs : List (Nat × Val)} {v : Val} (h : H[i]? = some (.inst c fs)) (hf : fs.lookup n = some v) : Wp (attrV (.loc i) n) H Q E = Q v H := by
  have : attrV (.loc i) n H = .ok v H := by
    unfold attrV; rw [look_at]; simp only [h, hf]
  unfold Wp; rw [this]
theorem wa_setattr3 {i c n : Nat} {fs : List (Nat × Val)} {v : Val} {Q : Unit → Hp → Prop} (h : H[i]? = some (.inst c fs)) : Wp (setattrV (.loc i) n v) H Q E = Q () (H.set i (.inst c (fput fs n v))) := by
  have : setattrV (.loc i) n v H = .ok () (H.set i (.inst c (fput fs n v))) := by
    unfold setattrV; simp only [h]
  unfold Wp; rw [this]
theorem wa_setitem3 {l : Nat} {xs : List Val} {k : Int} {v : Val} {Q : Unit → Hp → Prop} (h : H[l]? = some (.list xs)) (h0 : 0 ≤ k) (h1 : k < xs.length) : Wp (setitemV (.loc l) (.int k) v) H Q E = Q () (H.set l (.list (xs.set k.toNat v))) := by
  have : setitemV (.loc l) (.int k) v H = .ok () (H.set l (.list (xs.set k.toNat v))) := by
    unfold setitemV; simp only [h]; exact if_pos ⟨h0, h1⟩
  unfold Wp; rw [this]
theorem ws_eq3 {l : Nat} {xs : List Val} (h : H[l]? = some (.list xs)) {k : Nat} {v : Val} (hk : xs[k]? = some v) : Wp (subV (.loc l) (.int (k : Int))) H Q E = Q v H := by
  have lt := (List.getElem?_eq_some_iff.mp hk).1
  have : subV (.loc l) (.int (k : Int)) H = .ok v H := by
    unfold subV; rw [look_at]
    simp only [h, place_nat k xs.length lt, Option.bind_some, hk]
  unfold Wp; rw [this]
theorem wu_meth3 {i c m k : Nat} {fs : List (Nat × Val)} {Q : Nat → Hp → Prop} (h : H[i]? = some (.inst c fs)) (hk : T.meth c m = some k) : Wp (umethOf T (.loc i) m) H Q E = Q k H := by
  have : umethOf T (.loc i) m H = .ok k H := by
    unfold umethOf; rw [look_at]; simp only [h, hk]
  unfold Wp; rw [this]
theorem wps_listL {i l : Nat} {it : ME} {body : MSs} {xs : List Val} (I : Nat → Env' → Hp → Prop) (hit : wpE T Φ it Γ H (fun v H' => v = .loc l ∧ H' = H) NoE) (hl : H[l]? = some (.list xs)) (h0 : I 0 Γ H) (hx : ∀ k Γ K, I k Γ K → K[l]? = some (.list xs))
    (hs : ∀ k x Γ K, xs[k]? = some x → I k Γ K → wpSs T Φ body (Γ.set i (some x)) K (I (k + 1)) R ES) (hd : ∀ Γ K, I xs.length Γ K → QS Γ K) : wpS T Φ (.each i it body) Γ H QS R ES := by
  refine wps_each (wpE_then hit ?_)
  rintro v H' ⟨hr0, e⟩; rw [hr0]
  rw [e, getO_of (iter_list hl)]
  exact wps_eachN I h0 hd (fun k Γ K _ h => chk_list (hx k Γ K h)) fun k x Γ K hx h => ⟨_, rfl, hs k x Γ K hx h⟩
theorem row_of {l b s r c : Nat} {g : List (List Val)} {k : Nat} {x : Val} (og : OkG g r c) (G : GAt H l b s g) (hx : ((List.range g.length).map fun i => Val.loc (b + s * i))[k]? = some x) : ∃ w, x = .loc (b + s * k) ∧ g[k]? = some w ∧ H[b + s * k]? = some (.list w) ∧ w.length = c ∧ ∀ v ∈ w, HV v := by
  have lt : k < g.length := by have := (List.getElem?_eq_some_iff.mp hx).1; simpa using this
  rw [G.item lt] at hx
  cases hx
  have hg : g[k]? = some g[k] := List.getElem?_eq_getElem lt
  exact ⟨g[k], rfl, hg, G.row k _ hg, og.row k _ hg⟩
theorem rw_len {l n : Nat} {w : List Val} {k : Nat} {Γ : Env'} (g : Γ[k]? = some (some (.loc l))) (h : H[l]? = some (.list w)) (e : w.length = n) (h1 : 1 ≤ n) (h2 : n ≤ 30) : wpE T_13 (callF T_13 (d + 1)) (.or (.not (.isinst (.var k) .list)) (.not (.call 0 (.cons (.bf .len (.cons (.var k) .nil)) (.cons (.int 1) (.cons (.glob 0) .nil)))))) Γ H (fun v K => v = .bool false ∧ H = K) NoE := by
  rw [wp_or, wp_not, wp_isinst, wp_var, getV_of g, wi_list _ _ h]
  show wpE _ _ _ _ _ _ _
  rw [wp_not, wp_callE, wp_cons, wp_bf, wp_cons, wp_var, getV_of g, wp_nil, wv_len_loc h, wp_cons, wp_int, wp_cons, wp_glob, globs_0, getO_some, wp_nil, e, l13_whole (by omega) (by omega)]
  exact ⟨rfl, rfl⟩
theorem rw_each {l b s r c : Nat} {g : List (List Val)} {x1 : Option Val} (hS : OkS r c) (og : OkG g r c) (G : GAt H l b s g) (q : ∀ a, QS [some (.loc l), a] H) : wpS T_13 (callF T_13 (d + 1)) (.each 1 (.var 0) (.cons (.ite (.or (.not (.isinst (.var 1) .list)) (.not (.call 0 (.cons (.bf .len (.cons (.var 1) .nil)) (.cons (.int 1) (.cons (.glob 0) .nil)))))) (.cons (.raise 1 "a row is a list of heights") .nil) .nil) .nil)) [some (.loc l), x1] H QS R NoX := by
  unfold OkS at hS
  obtain ⟨I, hI⟩ := hide3 (fun (k : Nat) (Γ : Env') (K : Hp) => H = K ∧ ∃ a, Γ = [some (.loc l), a])
  refine wps_listL I ⟨rfl, rfl⟩ G.top ((hI _ _ _).mpr ⟨rfl, _, rfl⟩) (fun k Γ K h => by rw [← ((hI _ _ _).mp h).1]; exact G.top) ?_ ?_
  · intro k x Γ K hx h
    obtain ⟨rfl, a, rfl⟩ := (hI _ _ _).mp h
    obtain ⟨w, hr0, hg, hr, lw, _⟩ := row_of og G hx; refine Eq.symm hr0 ▸ ?_
    exact wps_no _ (rw_len rfl hr lw (by omega) (by omega)) fun K h => (hI _ _ _).mpr ⟨h, _, rfl⟩
  · intro Γ K h
    obtain ⟨rfl, a, rfl⟩ := (hI _ _ _).mp h
    exact q a
theorem rw_all {l b s r c : Nat} {g : List (List Val)} {x1 : Option Val} (hS : OkS r c) (og : OkG g r c) (G : GAt H l b s g) (q : ∀ a, QS [some (.loc l), a] H) : wpS T_13 (callF T_13 (d + 1)) (.each 1 (.var 0) (.cons (.ite (.cmp .ne (.bf .len (.cons (.var 1) .nil)) (.bf .len (.cons (.sub (.var 0) (.int 0)) .nil))) (.cons (.raise 1 "all rows are as long") .nil) .nil) .nil)) [some (.loc l), x1] H QS R NoX := by
  unfold OkS at hS
  obtain ⟨x0, hx0⟩ : ∃ x, ((List.range g.length).map fun i => Val.loc (b + s * i))[0]? = some x := ⟨_, List.getElem?_eq_getElem (by rw [List.length_map, List.length_range, og.len]; omega)⟩
  obtain ⟨w0, rfl, _, hr0, lw0, _⟩ := row_of og G hx0
  obtain ⟨I, hI⟩ := hide3 (fun (k : Nat) (Γ : Env') (K : Hp) => H = K ∧ ∃ a, Γ = [some (.loc l), a])
  refine wps_listL I ⟨rfl, rfl⟩ G.top ((hI _ _ _).mpr ⟨rfl, _, rfl⟩) (fun k Γ K h => by rw [← ((hI _ _ _).mp h).1]; exact G.top) ?_ ?_
  · clear q
    intro k x Γ K hx h
    obtain ⟨rfl, a, rfl⟩ := (hI _ _ _).mp h
    obtain ⟨w, hr1, hg, hr, lw, _⟩ := row_of og G hx; refine Eq.symm hr1 ▸ ?_
    refine wps_no (fun K => H = K) ?_ fun K h => (hI _ _ _).mpr ⟨h, _, rfl⟩
    show Wp (bfV .len [.loc (b + s * k)]) H _ _
    rw [wv_len_loc hr]
    show Wp (subV (.loc l) (.int ((0 : Nat) : Int))) H _ _
    rw [ws_eq3 G.top hx0]
    show Wp (bfV .len [.loc (b + s * 0)]) H _ _
    rw [wv_len_loc hr0, lw, lw0, go_ne, decide_eq_true rfl]
    exact ⟨rfl, rfl⟩
  · intro Γ K h
    obtain ⟨rfl, a, rfl⟩ := (hI _ _ _).mp h
    exact q a
theorem l13_rows {l b s r c : Nat} {g : List (List Val)} (hS : OkS r c) (og : OkG g r c) (G : GAt H l b s g) : Wp (callF T_13 (d + 2) 4 [.loc l]) H (fun v H' => v = .none ∧ H' = H) NoE := by
  have hS' := hS
  unfold OkS at hS'
  rw [wp_call (g := f4_13) rfl rfl]
  refine wps_no _ (rw_len rfl G.top (show _ = r by rw [List.length_map, List.length_range, og.len]) hS'.1 hS'.2.1) ?_
  rintro _ rfl
  refine rw_each hS og G fun a => ?_
  exact rw_all hS og G fun a => ⟨rfl, rfl⟩
structure LandAt (H : Hp) (o r c lg b s ls : Nat) (g : List (List Val)) (es : List (Key × Val)) : Prop where
  inst : ∃ fs, H[o]? = some (.inst 7 fs) ∧ fs.lookup 0 = some (.int (r : Int)) ∧ fs.lookup 1 = some (.int (c : Int)) ∧ fs.lookup 2 = some (.loc lg) ∧ fs.lookup 3 = some (.loc ls)
  grid : GAt H lg b s g
  sinks : H[ls]? = some (.dict es)
theorem LandAt.ext {H' : Hp} {o r c lg b s ls : Nat} {g : List (List Val)} {es : List (Key × Val)} (x : LandAt H o r c lg b s ls g es) (e : Ext H H') : LandAt H' o r c lg b s ls g es := by
  obtain ⟨fs, h1, h2⟩ := x.inst
  exact ⟨⟨fs, e.get h1, h2⟩, x.grid.ext e, e.get x.sinks⟩
structure But (l : Nat) (H H' : Hp) : Prop where
  keep : ∀ m ob, m ≠ l → H[m]? = some ob → H'[m]? = some ob
  len : H.length ≤ H'.length
theorem ini_loop {o l b s r c : Nat} {g : List (List Val)} (og : OkG g r c) (G : GAt H l b s g) (q : ∀ a b, QS [some (.loc o), some (.loc l), a, b] H) :
    wpS T_13 (callF T_13 (d + 2)) (.each 2 (.var 1) (.cons (.each 3 (.var 2) (.cons (.ite (.not (.call 3 (.cons (.var 3) .nil))) (.cons (.raise 2 "a height or None is wanted") .nil) .nil) .nil)) .nil)) [some (.loc o), some (.loc l), none, none] H QS R NoX := by
  obtain ⟨I, hI⟩ := hide3 (fun (k : Nat) (Γ : Env') (K : Hp) => H = K ∧ ∃ a b, Γ = [some (.loc o), some (.loc l), a, b])
  refine wps_listL I ⟨rfl, rfl⟩ G.top ((hI _ _ _).mpr ⟨rfl, _, _, rfl⟩) (fun k Γ K h => by rw [← ((hI _ _ _).mp h).1]; exact G.top) ?_ ?_
  · clear q
    intro k x Γ K hx h
    obtain ⟨rfl, a, b', rfl⟩ := (hI _ _ _).mp h
    obtain ⟨w, rfl, hg, hr, lw, hw⟩ := row_of og G hx
    refine wps_listL I ⟨rfl, rfl⟩ hr ((hI _ _ _).mpr ⟨rfl, _, _, rfl⟩) (fun k Γ K h => by rw [← ((hI _ _ _).mp h).1]; exact hr) ?_ (fun Γ K h => (hI _ _ _).mpr ((hI _ _ _).mp h))
    intro j v Γ K2 hv h
    obtain ⟨rfl, a, b', rfl⟩ := (hI _ _ _).mp h
    refine wps_no (fun K => H = K) ?_ (fun K h => (hI _ _ _).mpr ⟨h, _, _, rfl⟩)
    rw [wp_not, wp_callE, wp_cons, wp_var, getV_of (v := v) rfl, wp_nil, l13_height (hw v (List.mem_of_getElem? hv))]
    exact ⟨rfl, rfl⟩
  · intro Γ K h
    obtain ⟨rfl, a, b, rfl⟩ := (hI _ _ _).mp h
    exact q a b
theorem l13_init {o l b s r c : Nat} {g : List (List Val)} (hS : OkS r c) (og : OkG g r c) (G : GAt H l b s g) (ho : H[o]? = some (.inst 7 [])) :
    Wp (callF T_13 (d + 3) 16 [.loc o, .loc l]) H (fun v H' => v = .none ∧ But o H H' ∧ ∃ lg b' ls, LandAt H' o r c lg b' 1 ls g [] ∧ H.length ≤ b' ∧ lg = b' + r ∧ H.length ≤ ls) NoE := by
  have hS' := hS
  unfold OkS at hS'
  have len : ((List.range g.length).map fun i => Val.loc (b + s * i)).length = r := by rw [List.length_map, List.length_range, og.len]
  have ne : ∀ k w, g[k]? = some w → o ≠ b + s * k := fun k w hg q => by have := G.row k w hg; rw [← q, ho] at this; exact nomatch this
  have nl : o ≠ l := fun q => by have := G.top; rw [← q, ho] at this; cases this
  have G1 : ∀ ob, GAt (H.set o ob) l b s g := fun ob => G.other ob nl fun i hi => ne i g[i] (List.getElem?_eq_getElem hi)
  rw [wp_call (g := f16_13) rfl rfl]
  refine wps_ex (fun K => H = K) ?_ ?_
  · exact (l13_rows hS og G).then fun v H' h => h.2.symm
  rintro _ hr0; refine hr0 ▸ ?_
  refine ini_loop og G fun a b' => ?_
  obtain ⟨x0, hx0⟩ : ∃ x, ((List.range g.length).map fun i => Val.loc (b + s * i))[0]? = some x := ⟨_, List.getElem?_eq_getElem (by skip; omega)⟩
  obtain ⟨w0, rfl, hg0, hr0, lw0, _⟩ := row_of og G hx0
  show Wp (bfV .len [.loc l]) H _ _
  rw [wv_len_loc G.top, len]
  show Wp (setattrV (.loc o) 0 (.int (r : Int))) H _ _
  rw [wa_setattr3 ho]
  show Wp (subV (.loc l) (.int ((0 : Nat) : Int))) _ _ _
  rw [ws_eq3 (G1 _).top hx0]
  show Wp (bfV .len [.loc (b + s * 0)]) _ _ _
  rw [wv_len_loc ((G1 _).row 0 w0 hg0), lw0]
  show Wp (setattrV (.loc o) 1 (.int (c : Int))) _ _ _
  rw [wa_setattr3 (get_set _ ho), List.set_set]
  refine wp_copy (l := l) (b := b) (s := s) (g := g) rfl (G1 _) (by rw [og.len]; show r < 16777216; omega) ⟨rfl, rfl⟩ ?_
  intro K2 e2 G2 hK2
  rw [List.length_set] at G2 hK2 ⊢
  have o2 := e2.get (get_set (HObj.inst 7 [(0, Val.int (r : Int)), (1, Val.int (c : Int))]) ho)
  have lo : o < H.length := lt_of_get ho
  have e3 : ∀ (X : Hp) (ob : HObj), Ext X (X ++ [ob]) := fun X ob => ⟨_, rfl⟩
  show Wp (setattrV (.loc o) 2 (.loc (H.length + g.length))) K2 _ _
  rw [wa_setattr3 o2]
  show Wp (setattrV (.loc o) 3 _) (_ ++ [.dict []]) _ _
  rw [wa_setattr3 ((e3 _ _).get (get_set _ o2))]
  have G3 : ∀ (X : Hp) (ob : HObj), GAt X (H.length + g.length) H.length 1 g → GAt (X.set o ob) (H.length + g.length) H.length 1 g := fun X ob x => x.other ob (by omega) fun i _ => by omega
  refine ⟨rfl, ⟨fun m ob hm h => ?_, ?_⟩, H.length + g.length, H.length, K2.length, ⟨⟨_, get_set _ ((e3 _ _).get (get_set _ o2)), rfl, rfl, rfl, ?_⟩, G3 _ _ ((G3 _ _ G2).ext (e3 _ _)), ?_⟩, Nat.le_refl _, by rw [og.len], by omega⟩
  · exact get_other _ (Ne.symm hm) ((e3 _ _).get (get_other _ (Ne.symm hm) (e2.get (get_other _ (Ne.symm hm) h))))
  · rw [List.length_set, List.length_append, List.length_set]; omega
  · rw [List.length_set]; rfl
  · refine get_other _ (by omega) ?_
    have := get_new (K2.set o (HObj.inst 7 (fput [(0, Val.int (r : Int)), (1, Val.int (c : Int))] 2 (Val.loc (H.length + g.length))))) (.dict [])
    rw [List.length_set] at this
    exact this
end
end Mine.Pure
-- part LTF
namespace Mine.Pure
open PySem
section
variable {T : Tab} {Φ : Funs} {Γ : Env'} {H : Hp} {Q : Val → Hp → Prop} {E : Nat → Hp → Prop} {d : Nat} {QS : Env' → Hp → Prop} {R : Val → Hp → Prop} {ES : Nat → Env' → Hp → Prop}
theorem ext_of {H H' : Hp} (h : ∀ (m : Nat) (ob : HObj), H[m]? = some ob → H'[m]? = some ob) : Ext H H' := by
  refine ⟨H'.drop H.length, List.ext_getElem? fun i => ?_⟩
  by_cases c : i < H.length
  · rw [List.getElem?_append_left c, List.getElem?_eq_getElem c]
    exact h i _ (List.getElem?_eq_getElem c)
  · rw [List.getElem?_append_right (by omega), List.getElem?_drop, show H.length + (i - H.length) = i by omega]
theorem wn_land {l b s r c : Nat} {g : List (List Val)} (hS : OkS r c) (og : OkG g r c) (G : GAt H l b s g) : Wp (newV T_13 (callF T_13 (d + 3)) 7 [.loc l]) H (fun v H' => v = .loc H.length ∧ Ext H H' ∧ ∃ lg b' ls, LandAt H' H.length r c lg b' 1 ls g [] ∧ H.length < b' ∧ lg = b' + r ∧ H.length < ls) NoE := by
  show Wp ((M.alloc (.inst 7 [])).bnd fun o => (callF T_13 (d + 3) 16 [o, .loc l]).bnd fun r => match r with
    | .none => .ret o
    | _ => .bad) H _ _
  rw [wp_bnd, wp_alloc, wp_bnd]
  have e0 : Ext H (H ++ [HObj.inst 7 []]) := ⟨_, rfl⟩
  refine (l13_init hS og (G.ext e0) (get_new H _)).then ?_
  intro v H' zz
  obtain ⟨rfl, bt, lg, b', ls, L, h1, h2, h3⟩ := zz
  rw [List.length_append, List.length_singleton] at h1 h3
  refine ⟨rfl, ext_of fun m ob hm => bt.keep m ob (Nat.ne_of_lt (lt_of_get hm)) (e0.get hm), lg, b', ls, L, h1, h2, h3⟩
theorem l13_heights {o r c lg b s ls : Nat} {g : List (List Val)} {es : List (Key × Val)} (og : OkG g r c) (hr : r ≤ 30) (L : LandAt H o r c lg b s ls g es) : Wp (callF T_13 (d + 1) 21 [.loc o]) H (fun v H' => v = .loc (H.length + r) ∧ Ext H H' ∧ GAt H' (H.length + r) H.length 1 g) NoE := by
  have hlid : lid = 16777216 := rfl
  obtain ⟨fs, h0, h1, h2, h3, h4⟩ := L.inst
  rw [wp_call (g := f21_13) rfl rfl]
  refine wp_copy (l := lg) (b := b) (s := s) (g := g) rfl L.grid (by rw [og.len]; omega) ?_ ?_
  · simp only [↓wp_attr, ↓wp_var, List.map_cons, List.map_nil, List.cons_append, List.nil_append, ↓getV_zero]
    rw [wa_attr3 h0 h3]
    exact ⟨rfl, rfl⟩
  · intro K e G _
    rw [og.len] at G ⊢
    exact ⟨rfl, e, G⟩
noncomputable def inD (es : List (Key × Val)) (x : Val) : Bool := match keyOf x with
  | some k => (dget es k).isSome
  | none => false
theorem cell_mem {r c : Nat} {x : Val} (h : x ∈ cells r c) : ∃ i j : Nat, x = .tup [.int (i : Int), .int (j : Int)] ∧ i < r ∧ j < c := by
  unfold cells rowCells at h
  obtain ⟨i, hi, h⟩ := List.mem_flatMap.mp h
  obtain ⟨j, hj, h⟩ := List.mem_map.mp h
  exact ⟨i, j, h.symm, List.mem_range.mp hi, List.mem_range.mp hj⟩
theorem in_dict {ls : Nat} {es : List (Key × Val)} {i j : Int} (h : H[ls]? = some (.dict es)) : cmpV .isin (.tup [.int i, .int j]) (.loc ls) H = some (inD es (.tup [.int i, .int j])) := by
  have e : cmpV .isin (.tup [.int i, .int j]) (.loc ls) H = inV (.tup [.int i, .int j]) (.loc ls) H := rfl
  rw [e]
  unfold inV
  simp only [h]
  rfl
theorem take_snoc {α : Type} {l : List α} {k : Nat} {x : α} (h : l[k]? = some x) : l.take (k + 1) = l.take k ++ [x] := by
  rw [List.take_add_one, h]; rfl
theorem l13_drains {o r c lg b s ls : Nat} {g : List (List Val)} {es : List (Key × Val)} (hr : r ≤ 30) (hc : c ≤ 30) (L : LandAt H o r c lg b s ls g es) : Wp (callF T_13 (d + 2) 20 [.loc o]) H (fun v H' => ∃ m, v = .loc m ∧ H.length ≤ m ∧ Ext H H' ∧ H'[m]? = some (.list ((cells r c).filter (inD es)))) NoE := by
  have hlid : lid = 16777216 := rfl
  obtain ⟨fs, h0, h1, h2, h3, h4⟩ := L.inst
  rw [wp_call (g := f20_13) rfl rfl, f20_13]
  simp only [List.map_cons, List.map_nil, List.replicate_zero, List.cons_append, List.nil_append, ↓wps_cons, ↓wps_ret, ↓wp_oSome]
  refine wp_comp ?_
  dsimp only [↓wp_none, ↓wp_bool, ↓wp_int, ↓wp_str, ↓wp_glob, ↓wp_var, ↓wp_bin, ↓wp_not, ↓wp_and, ↓wp_or, ↓wp_cmp, ↓wp_cmp2, ↓wp_sub, ↓wp_oNone, ↓wp_oSome, ↓wp_tup, ↓wp_list, ↓wp_dict, ↓wp_callE, ↓wp_bf, ↓wp_bm, ↓wp_isinst, ↓wp_nil, ↓wp_cons, ↓wp_attr, ↓wp_umeth, ↓wp_new, ↓wp_slice, ↓wps_nil, ↓wps_cons, ↓wps_expr, ↓wps_assign, ↓wps_ret, ↓wps_ite, ↓wps_raise, ↓wps_setattr, ↓wps_setitem, ↓wv_add, ↓wv_sub, ↓wv_mul, ↓wv_fdiv, ↓wv_mod, ↓wv_range, ↓wv_len_script, ↓wv_len_tup, ↓wv_int, ↓go_eq, ↓go_ne, ↓go_neB, ↓go_isB, ↓go_lt, ↓go_gt, ↓go_le, ↓go_isNone_none, ↓go_isNone_int, ↓wi_int_int, ↓wi_int_bool, ↓wi_int_tup, ↓wi_int_list, ↓wi_bool_int, ↓wi_bool_bool, ↓wi_bool_tup, ↓wi_none_tup, ↓wi_none_int, ↓wi_str_tup, ↓wi_str_int, ↓wi_tup_tup, ↓wi_tup_int, ↓ws_tup0, ↓ws_tup1, ↓ws_tup2, ↓getV_zero, ↓getV_s, ↓getV_n, ↓getV_succ, ↓asBool_bool, ↓getO_some, ↓brB_true, ↓brB_false, ↓brB_not, ↓wp_ret, List.map_cons, List.map_nil, List.cons_append, List.nil_append, List.set_cons_zero, List.set_cons_succ, List.replicate_succ, List.replicate_zero, Bool.not_true, Bool.not_false, and_true, true_and, and_self]
  rw [wa_attr3 h0 h1, wa_attr3 h0 h2]
  refine (l13_cells hr hc).then ?_
  rintro v K ⟨rfl, e⟩
  rw [e]; clear e K
  have e0 : Ext H (H ++ [HObj.list (cells r c)]) := ⟨_, rfl⟩
  rw [getO_of (iter_list (get_new H _))]
  refine wp_compN (fun k out K => K = H ++ [.list (cells r c)] ∧ out = ((cells r c).take k).filter (inD es)) ⟨rfl, rfl⟩ ?_ ?_ ?_
  · rintro k out K ⟨rfl, _⟩; exact chk_list (get_new H _)
  · rintro k x out K hx ⟨rfl, rfl⟩
    obtain ⟨i, j, rfl, _, _⟩ := cell_mem (List.mem_of_getElem? hx)
    refine wp_step ?_
    dsimp only [↓wp_none, ↓wp_bool, ↓wp_int, ↓wp_str, ↓wp_glob, ↓wp_var, ↓wp_bin, ↓wp_not, ↓wp_and, ↓wp_or, ↓wp_cmp, ↓wp_cmp2, ↓wp_sub, ↓wp_oNone, ↓wp_oSome, ↓wp_tup, ↓wp_list, ↓wp_dict, ↓wp_callE, ↓wp_bf, ↓wp_bm, ↓wp_isinst, ↓wp_nil, ↓wp_cons, ↓wp_attr, ↓wp_umeth, ↓wp_new, ↓wp_slice, ↓wps_nil, ↓wps_cons, ↓wps_expr, ↓wps_assign, ↓wps_ret, ↓wps_ite, ↓wps_raise, ↓wps_setattr, ↓wps_setitem, ↓wv_add, ↓wv_sub, ↓wv_mul, ↓wv_fdiv, ↓wv_mod, ↓wv_range, ↓wv_len_script, ↓wv_len_tup, ↓wv_int, ↓go_eq, ↓go_ne, ↓go_neB, ↓go_isB, ↓go_lt, ↓go_gt, ↓go_le, ↓go_isNone_none, ↓go_isNone_int, ↓wi_int_int, ↓wi_int_bool, ↓wi_int_tup, ↓wi_int_list, ↓wi_bool_int, ↓wi_bool_bool, ↓wi_bool_tup, ↓wi_none_tup, ↓wi_none_int, ↓wi_str_tup, ↓wi_str_int, ↓wi_tup_tup, ↓wi_tup_int, ↓ws_tup0, ↓ws_tup1, ↓ws_tup2, ↓getV_zero, ↓getV_s, ↓getV_n, ↓getV_succ, ↓asBool_bool, ↓getO_some, ↓brB_true, ↓brB_false, ↓brB_not, ↓wp_ret, List.map_cons, List.map_nil, List.cons_append, List.nil_append, List.set_cons_zero, List.set_cons_succ, List.replicate_succ, List.replicate_zero, Bool.not_true, Bool.not_false, and_true, true_and, and_self]
    rw [wa_attr3 (e0.get h0) h4, getO_of (in_dict (e0.get L.sinks))]
    simp only [true_and]
    rw [take_snoc hx, List.filter_append]
    refine brB_cases ?_ ?_
    · intro q
      rw [List.filter_cons_of_pos q]; rfl
    · intro q
      rw [List.filter_cons_of_neg (by rw [q]; exact Bool.false_ne_true)]; rfl
  · rintro zs K ⟨rfl, rfl⟩
    have tl : (cells r c).take (cells r c).length = cells r c := List.take_length
    refine ⟨?_, _, rfl, by rw [List.length_append]; omega, e0.new _, ?_⟩
    · refine Nat.lt_of_le_of_lt (List.length_filter_le _ _) ?_
      rw [tl, cells_len]
      have := Nat.mul_le_mul hr hc
      omega
    · rw [get_new, tl]
theorem l13_look {o r c lg b s ls i j : Nat} {g : List (List Val)} {es : List (Key × Val)} (hi : i < r) (hj : j < c) (L : LandAt H o r c lg b s ls g es) : Wp (callF T_13 (d + 3) 17 [.loc o, .tup [.int (i : Int), .int (j : Int)]]) H (fun v H' => v = .none ∧ H' = H) NoE := by
  obtain ⟨fs, h0, h1, h2, h3, h4⟩ := L.inst
  rw [wp_call (g := f17_13) rfl rfl, f17_13]
  refine wps_no (fun H' => H' = H) ?_ ?_
  · simp only [↓wp_not, ↓wp_callE, ↓wp_cons, ↓wp_attr, ↓wp_var, List.map_cons, List.map_nil, List.replicate_zero, List.cons_append, List.nil_append, ↓wp_nil, ↓getV_succ, ↓getV_zero]
    rw [wa_attr3 h0 h1, wa_attr3 h0 h2, l13_lies (by omega) (by omega) (by omega) (by omega)]
    simp only [↓asBool_bool, Bool.not_true, and_self]
  · rintro H' rfl
    rw [wps_nil]; exact ⟨rfl, rfl⟩
theorem ext_look {o i j : Nat} {fs : List (Nat × Val)} {P : Hp → Prop} (h0 : H[o]? = some (.inst 7 fs)) (h : Wp (callF T_13 d 17 [.loc o, .tup [.int (i : Int), .int (j : Int)]]) H (fun v H' => v = .none ∧ H' = H) NoE) (p : P H) {Γ : Env'} (g0 : Γ[0]? = some (some (.loc o))) (g1 : Γ[1]? = some (some (.tup [.int (i : Int), .int (j : Int)]))) :
    wpE T_13 (callF T_13 d) (.umeth (.var 0) 1 (.cons (.var 1) .nil)) Γ H (fun _ H' => P H') NoE := by
  rw [wp_umeth, wp_var, getV_get, g0]
  show Wp (umethOf T_13 (.loc o) 1) H _ _
  rw [wu_meth3 h0 (show T_13.meth 7 1 = some 17 from rfl), wp_cons, wp_var, getV_get, g1]
  exact h.then fun v H' e => e.2 ▸ p
theorem l13_opened {o r c lg b s ls i j : Nat} {g : List (List Val)} {es : List (Key × Val)} {w : List Val} {n : Int} (hi : i < r) (hj : j < c) (L : LandAt H o r c lg b s ls g es) (hw : g[i]? = some w) (hx : w[j]? = some (.int n)) (he : es.length < lid) :
    Wp (callF T_13 (d + 4) 19 [.loc o, .tup [.int (i : Int), .int (j : Int)]]) H (fun v H' => v = .none ∧ H' = H.set ls (.dict (dput es ((i : Int), (j : Int)) (.bool true)))) NoE := by
  obtain ⟨fs, h0, h1, h2, h3, h4⟩ := L.inst
  rw [wp_call (g := f19_13) rfl rfl]
  refine wps_ex (fun H' => H' = H) (ext_look (P := fun K => K = H) h0 (l13_look hi hj L) rfl rfl rfl) ?_
  rintro H' rfl
  refine wps_no (fun K => K = H') ?_ ?_
  · simp only [↓wp_cmp, ↓wp_sub, ↓wp_attr, ↓wp_var, List.map_cons, List.map_nil, List.cons_append, List.nil_append, ↓wp_int, ↓wp_none, ↓getV_succ, ↓getV_zero, ↓ws_tup1, ↓ws_tup0]
    rw [wa_attr3 h0 h3, ws_eq3 L.grid.top (L.grid.item (List.getElem?_eq_some_iff.mp hw).1), ws_eq3 (L.grid.row i w hw) hx]
    simp only [↓go_isNone_int, and_self]
  rintro K rfl
  simp only [↓wps_cons, ↓wps_setitem, ↓wp_bool, ↓wp_attr, ↓wp_var, List.map_cons, List.map_nil, List.cons_append, List.nil_append, ↓wps_nil, true_and, ↓getV_succ, ↓getV_zero]
  rw [wa_attr3 h0 h4]
  refine Wp.of_eq (a := ()) (H' := K.set ls (.dict (dput es ((i : Int), (j : Int)) (.bool true)))) ?_ rfl
  unfold setitemV
  simp only [L.sinks]
  exact if_pos he
end
end Mine.Pure
-- part LTI
namespace Mine.Pure
open PySem
theorem dget_put (es : List (Key × Val)) (k : Key) (v : Val) (k' : Key) : dget (dput es k v) k' = if k' = k then some v else dget es k' := by
  unfold dget
  induction es with
  | nil =>
    show List.lookup k' [(k, v)] = _
    rw [List.lookup_cons]
    by_cases q : k' = k
    · rw [if_pos q, q, beq_self_eq_true]
    · rw [if_neg q, beq_eq_false_iff_ne.mpr q]
  | cons e es ih =>
    obtain ⟨a, b⟩ := e
    have st : dput ((a, b) :: es) k v = if a = k then (a, v) :: es else (a, b) :: dput es k v := rfl
    rw [st]
    by_cases q : a = k
    · refine q ▸ ?_
      rw [if_pos rfl, List.lookup_cons, List.lookup_cons]
      by_cases c : k' = a
      · rw [if_pos c, c, beq_self_eq_true]
      · rw [if_neg c, beq_eq_false_iff_ne.mpr c]
    · rw [if_neg q, List.lookup_cons, List.lookup_cons, ih]
      by_cases c : k' = a
      · rw [c, beq_self_eq_true]
        exact (if_neg q).symm
      · rw [beq_eq_false_iff_ne.mpr c]
theorem dput_len (es : List (Key × Val)) (k : Key) (v : Val) : (dput es k v).length ≤ es.length + 1 := by
  induction es with
  | nil => exact Nat.le_refl _
  | cons e es ih =>
    obtain ⟨a, b⟩ := e
    have st : dput ((a, b) :: es) k v = if a = k then (a, v) :: es else (a, b) :: dput es k v := rfl
    rw [st]
    by_cases q : a = k
    · rw [if_pos q]; simp
    · rw [if_neg q]; simp; omega
section
variable {T : Tab} {Φ : Funs} {Γ : Env'} {H : Hp} {Q : Val → Hp → Prop} {E : Nat → Hp → Prop} {d l : Nat} {QS : Env' → Hp → Prop} {R : Val → Hp → Prop} {ES : Nat → Env' → Hp → Prop}
noncomputable def inR (r c : Nat) (k : Key) : Bool := decide (0 ≤ k.1 ∧ k.1 < r ∧ 0 ≤ k.2 ∧ k.2 < c)
theorem inR_nat {r c : Nat} {k : Key} (h : inR r c k = true) : ∃ i j : Nat, k = ((i : Int), (j : Int)) ∧ i < r ∧ j < c := by
  obtain ⟨a, b⟩ := k
  have h : 0 ≤ a ∧ a < r ∧ 0 ≤ b ∧ b < c := of_decide_eq_true h
  exact ⟨a.toNat, b.toNat, Prod.ext (show a = (a.toNat : Int) by omega) (show b = (b.toNat : Int) by omega), by omega, by omega⟩
theorem inR_of {r c i j : Nat} (hi : i < r) (hj : j < c) : inR r c ((i : Int), (j : Int)) = true := decide_eq_true (show 0 ≤ (i : Int) ∧ (i : Int) < r ∧ 0 ≤ (j : Int) ∧ (j : Int) < c by omega)
theorem l13_wholeB {x lo hi : Int} : Wp (callF T_13 (d + 1) 0 [.int x, .int lo, .int hi]) H Q E = Q (.bool (decide (lo ≤ x ∧ x ≤ hi))) H := by
  rw [wp_call (g := f0_13) rfl rfl, f0_13]
  simp only [List.map_cons, List.map_nil, List.replicate_zero, List.cons_append, List.nil_append, ↓wps_cons, ↓wps_ite, ↓wp_or, ↓wp_not, ↓wp_isinst, ↓wp_var, ↓getV_zero, ↓wi_int_int, ↓asBool_bool, ↓brB_not, ↓brB_true, ↓wi_int_bool, ↓brB_false, ↓wps_nil, ↓wps_ret, ↓wp_oSome, ↓wp_cmp2, ↓getV_succ, ↓go_le]
  by_cases h1 : lo ≤ x
  · rw [brB_pos h1, show decide (x ≤ hi) = decide (lo ≤ x ∧ x ≤ hi) from decide_eq_decide.mpr ⟨fun h => ⟨h1, h⟩, fun h => h.2⟩]
  · rw [brB_neg h1, show decide (lo ≤ x ∧ x ≤ hi) = false from decide_eq_false fun h => h1 h.1]
theorem map_get {ks : List Key} {n : Nat} {x : Val} (h : (ks.map valOf)[n]? = some x) : ∃ q, ks[n]? = some q ∧ x = valOf q := by
  rw [List.getElem?_map] at h
  cases e : ks[n]? with
  | none => rw [e] at h; cases h
  | some q => rw [e] at h; cases h; exact ⟨q, rfl, rfl⟩
end
end Mine.Pure
-- part LTJ
namespace Mine.Pure
open PySem
noncomputable def keys (r c : Nat) : List Key := (List.range r).flatMap fun (i : Nat) => (List.range c).map fun (j : Nat) => ((i : Int), (j : Int))
theorem keys_cells (r c : Nat) : (keys r c).map valOf = cells r c := by
  unfold keys cells rowCells
  rw [List.map_flatMap]
  congr 1
  funext i
  rw [List.map_map]; rfl
theorem keys_len (r c : Nat) : (keys r c).length = r * c := by
  rw [← cells_len, ← keys_cells, List.length_map]
theorem mem_keys {r c : Nat} {k : Key} : k ∈ keys r c ↔ inR r c k = true := by
  unfold keys
  constructor
  · intro h
    obtain ⟨i, hi, h⟩ := List.mem_flatMap.mp h
    obtain ⟨j, hj, hr0⟩ := List.mem_map.mp h; refine hr0 ▸ ?_
    exact inR_of (List.mem_range.mp hi) (List.mem_range.mp hj)
  · intro h
    obtain ⟨i, j, rfl, hi, hj⟩ := inR_nat h
    exact List.mem_flatMap.mpr ⟨i, List.mem_range.mpr hi, List.mem_map.mpr ⟨j, List.mem_range.mpr hj, rfl⟩⟩
theorem mem_take_succ {α : Type} {l : List α} {n : Nat} {x y : α} (h : l[n]? = some x) : y ∈ l.take (n + 1) ↔ (y ∈ l.take n ∨ y = x) := by
  rw [take_snoc h, List.mem_append, List.mem_singleton]
end Mine.Pure
-- part LT1
namespace Mine.Pure
open PySem PySem.Builtin PySem.Builtin.Str
noncomputable def Ok (x : Str) : Prop := ∀ c ∈ x.cps.toList, c < 0x110000
theorem ok_iff (x : Str) : PyData.strOk x = true ↔ Ok x := by
  unfold PyData.strOk Ok
  rw [← Array.all_toList, List.all_eq_true]
  exact ⟨fun h c hc => of_decide_eq_true (h c hc), fun h c hc => decide_eq_true (h c hc)⟩
theorem ok_app {x y : Str} (hx : Ok x) (hy : Ok y) : Ok (x ++ y) := by
  intro c hc
  have e : (x ++ y).cps = x.cps ++ y.cps := rfl
  rw [e, Array.toList_append, List.mem_append] at hc
  exact hc.elim (hx c) (hy c)
theorem ok_sub {x : Str} (hx : Ok x) (i j : Nat) : Ok (strSub x i j) := by
  intro c hc
  have e : (strSub x i j).cps = x.cps.extract i j := rfl
  rw [e, Array.toList_extract] at hc
  exact hx c (List.mem_of_mem_drop (List.mem_of_mem_take hc))
theorem sub_len (x : Str) (i j : Nat) : (strSub x i j).length ≤ x.length := by
  show (x.cps.extract i j).size ≤ x.cps.size
  rw [Array.size_extract]; omega
theorem split_el {x y a : Str} (h : a ∈ Txt.split x y) : a = x ∨ ∃ i j, a = strSub x i j := by
  unfold Txt.split at h
  split at h
  · exact .inl (List.mem_singleton.mp h)
  · split at h
    · exact .inl (List.mem_singleton.mp h)
    · unfold partsBetween at h
      obtain ⟨p, _, e⟩ := List.mem_map.mp h
      exact .inr ⟨p.1, p.2, e.symm⟩
theorem ok_part {x y a : Str} (hx : Ok x) (h : a ∈ Txt.split x y) : Ok a := by
  rcases split_el h with e | ⟨i, j, e⟩
  · rw [e]; exact hx
  · rw [e]; exact ok_sub hx i j
theorem part_len {x y a : Str} (h : a ∈ Txt.split x y) : a.length ≤ x.length := by
  rcases split_el h with e | ⟨i, j, e⟩
  · rw [e]; exact Nat.le_refl _
  · rw [e]; exact sub_len x i j
theorem split_len (x y : Str) : 1 ≤ (Txt.split x y).length ∧ (Txt.split x y).length ≤ x.length + 2 := by
  unfold Txt.split
  split
  · exact ⟨Nat.le_refl _, by show 1 ≤ _; omega⟩
  · split
    · exact ⟨Nat.le_refl _, by show 1 ≤ _; omega⟩
    · have := StrLaws.occ_length_le x y 0 x.length (x.length + 1)
      rw [length_partsBetween]
      omega
theorem ok_slice {x : Str} (hx : Ok x) (l u : Option Int) : Ok (Txt.slice x l u) := by
  unfold Txt.slice
  split
  · exact hx
  · intro c hc
    obtain ⟨i, _, e⟩ := List.mem_filterMap.mp hc
    obtain ⟨lt, e⟩ := Array.getElem?_eq_some_iff.mp e
    rw [← e]
    exact hx _ (Array.mem_toList_iff.mpr (Array.getElem_mem lt))
theorem ok_one {x : Str} (hx : Ok x) {i c : Nat} (h : x.cps[i]? = some c) : Ok ⟨#[c]⟩ := by
  intro b hb
  obtain ⟨lt, e⟩ := Array.getElem?_eq_some_iff.mp h
  have : b = c := List.mem_singleton.mp hb
  rw [this, ← e]
  exact hx _ (Array.mem_toList_iff.mpr (Array.getElem_mem lt))
theorem ok_join {s : Str} (hs : Ok s) : ∀ (xs : List Str), (∀ x ∈ xs, Ok x) → Ok (Str.join s xs)
  | [], _ => fun c hc => nomatch hc
  | [x], h => h x (.head _)
  | x :: y :: r, h => ok_app (ok_app (h x (.head _)) hs) (ok_join hs (y :: r) fun a ha => h a (.tail _ ha))
theorem ok_glue {s : Str} (hs : Ok s) {xs : List Str} (h : ∀ x ∈ xs, Ok x) : Ok (Txt.join s xs) := by
  show Ok (glued s xs)
  rw [StrLaws.glued_eq_join]
  exact ok_join hs xs h
theorem glue_len (s : Str) (xs : List Str) : (Txt.join s xs).length ≤ (xs.map (·.length)).sum + xs.length * s.length := by
  show (glued s xs).length ≤ _
  rw [StrLaws.glued_eq_join]
  exact StrLaws.join_length_le s xs
theorem sum_le (xs : List Str) (n : Nat) (h : ∀ x ∈ xs, x.length ≤ n) : (xs.map (·.length)).sum ≤ xs.length * n := by
  induction xs with
  | nil => exact Nat.zero_le _
  | cons x xs ih =>
    have h1 := ih fun y hy => h y (.tail _ hy)
    have h2 := h x (.head _)
    simp only [List.map_cons, List.sum_cons, List.length_cons, Nat.succ_mul]
    omega
theorem ok_lit (s : String) : Ok (Str.ofString s) := by
  rw [Str.ofString_eq_toList]
  intro c hc
  obtain ⟨a, _, rfl⟩ := List.mem_map.mp hc
  have := a.valid
  rcases this with h | ⟨_, h⟩
  · exact Nat.lt_trans h (by decide)
  · exact h
theorem ok_num (i : Int) : Ok (numText i) := ok_lit _
theorem num_len {i : Int} (h : i.natAbs < 10000000000) : (numText i).length ≤ 11 := by
  unfold numText
  rw [PySem.ofString_length]
  exact int_text_length_le10 (k := 10) (by decide) h
noncomputable def isDig (c : Nat) : Bool := decide (48 ≤ c) && decide (c ≤ 57)
theorem dig_in (c : Nat) : Txt.contains ("0123456789" : Str) ⟨#[c]⟩ = isDig c := by
  refine (StrLaws.found_one _ c).trans ?_
  unfold isDig
  rw [show (("0123456789" : Str).cps.toList) = [48, 49, 50, 51, 52, 53, 54, 55, 56, 57] by decide +kernel]
  rw [Bool.eq_iff_iff, decide_eq_true_iff, Bool.and_eq_true, decide_eq_true_iff, decide_eq_true_iff]
  simp only [List.mem_cons, List.not_mem_nil, or_false]
  omega
noncomputable def hBad (u : Str) : Bool := decide (u.length = 0) || (decide (10 < u.length) || ((decide (1 < u.length) && (u.cps[0]? == some 48)) || (!figOk u || decide (1000000000 < figVal u))))
noncomputable def hOf (u : Str) : Option Int := if hBad u = true then none else some (figVal u : Int)
noncomputable def starred (w : Str) : Bool := w.cps[w.length - 1]? == some 42
noncomputable def cutW (w : Str) : Str := if starred w = true then Txt.slice w none (some (-1)) else w
noncomputable def valW (w : Str) : Option Val := if (w == ("#" : Str)) = true then some .none else (hOf (cutW w)).map .int
noncomputable def valL (w : Str) : Val := (valW w).getD (.int (-1))
noncomputable def drW (w : Str) : Bool := decide (1 < w.length) && starred w
theorem ok_cut {w : Str} (h : Ok w) : Ok (cutW w) := by
  unfold cutW; split
  · exact ok_slice h _ _
  · exact h
theorem idx_last (n : Nat) (h : 1 ≤ n) : strSliceIndices (some (-1)) none 1 n = [n - 1] := by
  have e : max (0 : Int) (min (-1 + n) n) = ((n - 1 : Nat) : Int) := by omega
  unfold strSliceIndices sliceRange
  simp only [show (1 : Int) > 0 by decide, show (-1 : Int) < 0 by decide, if_true, e]
  rw [if_pos (by omega)]
  rw [show (((n : Int) - ((n - 1 : Nat) : Int) + 1 - 1) / 1).toNat = 1 by omega]
  show [((((n - 1 : Nat) : Int) + 1 * 0)).toNat] = _
  congr 1
set_option tactic.hygienic true in
theorem slice_last (w : Str) (h : 1 ≤ w.length) : ∃ c, w.cps[w.length - 1]? = some c ∧ Txt.slice w (some (-1)) none = ⟨#[c]⟩ := by
  have lt : w.length - 1 < w.cps.size := by show w.cps.size - 1 < w.cps.size; have : 1 ≤ w.cps.size := h; omega
  refine ⟨w.cps[w.length - 1], Array.getElem?_eq_getElem lt, ?_⟩
  unfold Txt.slice
  rw [idx_last _ h]
  split
  · rename_i q
    have q : (1 == w.length) = true := q
    have q := (beq_iff_eq.mp q).symm
    obtain ⟨⟨cs⟩⟩ := w
    have q : cs.length = 1 := q
    obtain ⟨a, rfl⟩ := List.length_eq_one_iff.mp q
    rfl
  · show Str.mk (List.filterMap _ [w.length - 1]).toArray = _
    rw [List.filterMap_cons, Array.getElem?_eq_getElem lt]
    rfl
theorem slice_nil (w : Str) (h : w.length = 0) : Txt.slice w (some (-1)) none = w := by
  unfold Txt.slice
  rw [h]
  rfl
theorem cut_one (w : Str) (h : w.length = 1) : (Txt.slice w none (some (-1))).length = 0 := by
  unfold Txt.slice
  rw [h]
  rfl
set_option tactic.hygienic true in
theorem hOf_pos {u : Str} {n : Int} (h : hOf u = some n) : 1 ≤ u.length ∧ 0 ≤ n ∧ n ≤ 1000000000 := by
  unfold hOf at h
  split at h
  · exact nomatch h
  · rename_i q
    cases h
    unfold hBad at q
    simp only [Bool.or_eq_true, Bool.and_eq_true, decide_eq_true_eq, not_or] at q
    have := q.1
    have := q.2.2.2.2
    exact ⟨by omega, by omega, by omega⟩
theorem val_hv {w : Str} {v : Val} (h : valW w = some v) : HV v := by
  unfold valW at h
  split at h
  · cases h; exact .inl rfl
  · obtain ⟨n, e, rfl⟩ := Option.map_eq_some_iff.mp h
    exact .inr ⟨n, rfl, (hOf_pos e).2⟩
set_option tactic.hygienic true in
theorem val_star {w : Str} {v : Val} (h : valW w = some v) : drW w = (!(w == ("#" : Str)) && starred w) := by
  unfold valW at h
  split at h
  · rename_i q
    rw [beq_iff_eq.mp q]; decide +kernel
  · rename_i q
    rw [eq_false_of_ne_true q]
    obtain ⟨n, e, _⟩ := Option.map_eq_some_iff.mp h
    show (decide (1 < w.length) && starred w) = (true && starred w)
    cases s : starred w with
    | false => rw [Bool.and_false, Bool.and_false]
    | true =>
      have l := (hOf_pos e).1
      unfold cutW at l
      rw [s, if_pos rfl] at l
      have : 1 < w.length := by
        by_cases c : w.length = 1
        · have := cut_one w c; omega
        · have := Txt.slice_le w none (some (-1)); omega
      rw [decide_eq_true this]
theorem star_int {w : Str} {v : Val} (h : valW w = some v) (s : drW w = true) : ∃ n, v = .int n := by
  rw [val_star h, Bool.and_eq_true] at s
  unfold valW at h
  have q : ¬ (w == ("#" : Str)) = true := by have := s.1; rw [Bool.not_eq_true'] at this; rw [this]; exact Bool.false_ne_true
  rw [if_neg q] at h
  obtain ⟨n, _, rfl⟩ := Option.map_eq_some_iff.mp h
  exact ⟨n, rfl⟩
end Mine.Pure
-- part LT2
namespace Mine.Pure
open PySem PySem.Builtin PySem.Builtin.Str
section
variable {T : Tab} {Φ : Funs} {Γ : Env'} {H : Hp} {Q : Val → Hp → Prop} {E : Nat → Hp → Prop} {d : Nat} {QS : Env' → Hp → Prop} {R : Val → Hp → Prop} {ES : Nat → Env' → Hp → Prop}
theorem data_str {x : Str} (h : Ok x) (n : Nat) : dataOf H n (.str x) = some (.str x) := by
  have : flatOf (.str x) = some (.str x) := if_pos ((ok_iff x).mpr h)
  cases n <;> exact this
theorem go_eqS {x y : Str} (hx : Ok x) (hy : Ok y) (k : Bool → Prop) : getO (cmpV .eq (.str x) (.str y) H) k = k (x == y) := by
  have e : cmpV .eq (.str x) (.str y) H = some (x == y) := by
    show pyEq H (.str x) (.str y) = _
    unfold pyEq
    rw [data_str hx, data_str hy]
    rfl
  rw [e]; rfl
theorem wv_len_str (x : Str) : Wp (bfV .len [.str x]) H Q E = Q (.int x.length) H := rfl
theorem wsl_str (x : Str) (l h : Val) {a b : Option Int} (e1 : boundOf l = some a) (e2 : boundOf h = some b) : Wp (sliceV (.str x) l h) H Q E = Q (.str (Txt.slice x a b)) H := by
  have : sliceV (.str x) l h H = .ok (.str (Txt.slice x a b)) H := by
    show M.ofOpt (sliceT (.str x) l h) H = _
    have : sliceT (.str x) l h = some (.str (Txt.slice x a b)) := by
      show ((boundOf l).bind fun l => (boundOf h).map fun h => Val.str (Txt.slice x l h)) = _
      rw [e1, e2]; rfl
    rw [this]; rfl
  unfold Wp; rw [this]
theorem ws_str {x : Str} {k : Int} {p c : Nat} (hp : placeOf k x.length = some p) (hc : x.cps[p]? = some c) : Wp (subV (.str x) (.int k)) H Q E = Q (.str ⟨#[c]⟩) H := by
  have : subV (.str x) (.int k) H = .ok (.str ⟨#[c]⟩) H := by
    unfold subV; rw [look_at]
    simp only [hp, Option.bind_some, hc, Option.map_some]
  unfold Wp; rw [this]
theorem wm_split {x y : Str} (hy : (y.length == 0) = false) (hx : x.length + 2 ≤ lid) : Wp (bmV .split (.str x) [.str y]) H Q E = Q (.loc H.length) (H ++ [.list ((Txt.split x y).map .str)]) := by
  have : bmV .split (.str x) [.str y] H = M.alloc (.list ((Txt.split x y).map .str)) H := if_pos ⟨hy, hx⟩
  unfold Wp; rw [this]; rfl
theorem wv_intS {x : Str} (h : figOk x = true) (h1 : 1 ≤ x.length) (h2 : x.length ≤ 640) : Wp (bfV .int [.str x]) H Q E = Q (.int (figVal x : Int)) H := by
  have : bfV .int [.str x] = M.ret (.int (figVal x : Int)) := if_pos (by rw [h, decide_eq_true h1, decide_eq_true h2]; rfl)
  rw [this]; rfl
theorem wv_strI {i : Int} (h : small i = true) : Wp (bfV .str [.int i]) H Q E = Q (.str (numText i)) H := by
  have : bfV .str [.int i] = M.ret (.str (numText i)) := if_pos h
  rw [this]; rfl
theorem go_notin (c : Nat) (k : Bool → Prop) : getO (cmpV .notin (.str ⟨#[c]⟩) (.str ("0123456789" : Str)) H) k = k (!isDig c) := by
  show k (!Txt.contains ("0123456789" : Str) ⟨#[c]⟩) = _
  rw [dig_in]
theorem iter_str (x : Str) : iterOf (.str x) H = some (x.cps.toList.map (fun c => .str ⟨#[c]⟩), none) := rfl
theorem sign_loop {u : Str} {c : ME} {bad : MSs} {x1 : Option Val} {rest : Env'} (hc : ∀ ch (Q : Val → Hp → Prop) (E : Nat → Hp → Prop), Q (.bool (!isDig ch)) H → wpE T Φ c (some (.str u) :: some (.str ⟨#[ch]⟩) :: rest) H Q E)
    (hb : figOk u = false → ∀ ch, wpSs T Φ bad (some (.str u) :: some (.str ⟨#[ch]⟩) :: rest) H (fun _ _ => False) R ES) (q : figOk u = true → ∀ x, QS (some (.str u) :: x :: rest) H) :
    wpS T Φ (.each 1 (.var 0) (.cons (.ite c bad .nil) .nil)) (some (.str u) :: x1 :: rest) H QS R ES := by
  refine wps_each ?_
  rw [wp_var, getV_zero, getO_of (iter_str u)]
  refine wps_eachN (fun k Γ K => H = K ∧ (∃ x, Γ = some (.str u) :: x :: rest) ∧ ∀ j ch, j < k → u.cps.toList[j]? = some ch → isDig ch = true) ⟨rfl, ⟨_, rfl⟩, fun j ch h => absurd h (Nat.not_lt_zero _)⟩ ?_ ?_ ?_
  · rintro _ _ ⟨rfl, ⟨x, rfl⟩, h⟩
    refine q ?_ x
    rw [List.length_map] at h
    refine List.all_eq_true.mpr fun ch hc => ?_
    obtain ⟨j, hj⟩ := List.getElem?_of_mem hc
    exact h j ch (List.getElem?_eq_some_iff.mp hj).1 hj
  · intro k Γ K _ _; rfl
  · rintro k x _ _ hx ⟨rfl, ⟨y, rfl⟩, h⟩
    rw [List.getElem?_map] at hx
    obtain ⟨ch, e, rfl⟩ := Option.map_eq_some_iff.mp hx
    refine ⟨_, rfl, ?_⟩
    show wpE T Φ c (some (.str u) :: some (.str ⟨#[ch]⟩) :: rest) H _ _
    refine hc ch _ _ ?_
    show brB (!isDig ch) _ _
    cases z : isDig ch with
    | true =>
      refine ⟨rfl, ⟨_, rfl⟩, fun j c' hj e' => ?_⟩
      by_cases w : j < k
      · exact h j c' w e'
      · have : j = k := by omega
        rw [this, e] at e'
        cases e'
        exact z
    | false =>
      refine wpSs_mono (hb ?_ ch) (fun _ _ h => h.elim) (fun _ _ h => h) (fun _ _ _ h => h)
      cases f : figOk u with
      | false => rfl
      | true =>
        have := List.all_eq_true.mp f ch (List.mem_of_getElem? e)
        have : isDig ch = true := this
        rw [z] at this
        exact nomatch this
end
section
variable {H : Hp} {Q : Val → Hp → Prop} {E : Nat → Hp → Prop} {d : Nat}
theorem globs_2 : T_13.globs[2]? = some (.str "0123456789") := rfl
theorem num_bil : (numText 1000000000).length = 10 := by decide +kernel
theorem ok_nil : Ok ("" : Str) := (ok_iff _).mp (by decide +kernel)
theorem ok_zero : Ok ("0" : Str) := (ok_iff _).mp (by decide +kernel)
theorem ok_star : Ok ("*" : Str) := (ok_iff _).mp (by decide +kernel)
theorem ok_stone : Ok ("#" : Str) := (ok_iff _).mp (by decide +kernel)
theorem nil_iff (u : Str) : (u == ("" : Str)) = decide (u.length = 0) := by
  obtain ⟨⟨cs⟩⟩ := u
  cases cs with
  | nil => decide +kernel
  | cons a cs =>
    have : ¬ ((⟨⟨a :: cs⟩⟩ : Str) == ("" : Str)) = true := by
      rw [beq_iff_eq]; intro e
      have : (⟨⟨a :: cs⟩⟩ : Str).length = 0 := by rw [e]; decide +kernel
      exact nomatch this
    rw [eq_false_of_ne_true this]
    exact (decide_eq_false (show ¬ (a :: cs).length = 0 from nofun)).symm
theorem one_iff (a b : Nat) (s : Str) (h : s = ⟨#[b]⟩) : ((⟨#[a]⟩ : Str) == s) = (some a == some b) := by
  rw [h, Bool.eq_iff_iff, beq_iff_eq, beq_iff_eq]
  constructor
  · intro e
    have : (⟨#[a]⟩ : Str).cps[0]? = (⟨#[b]⟩ : Str).cps[0]? := by rw [e]
    exact this
  · intro e; rw [Option.some.inj e]
theorem l13_hof {u : Str} (hu : Ok u) (hn : u.length ≤ lid) : Wp (callF T_13 (d + 1) 5 [.str u]) H (fun v H' => H' = H ∧ ∃ n, hOf u = some n ∧ v = .int n) (fun c H' => c = 1 ∧ hOf u = none) := by
  rw [wp_call (g := f5_13) rfl rfl]
  have no : hBad u = true → hOf u = none := fun h => if_pos h
  unfold f5_13
  show wpSs T_13 _ (.cons _ _) [some (.str u), none, none] H _ _ _
  rw [wps_cons, wps_ite, wp_or, wp_cmp, wp_var, getV_zero, wp_str, go_eqS hu ok_nil, nil_iff, asBool_bool]
  by_cases c0 : u.length = 0
  · rw [brB_pos c0]
    exact ⟨rfl, rfl, no (by unfold hBad; rw [decide_eq_true c0]; rfl)⟩
  rw [brB_neg c0, wp_cmp, wp_bf, wp_cons, wp_var, getV_zero, wp_nil, wv_len_str, wp_bf, wp_cons, wp_bf, wp_cons, wp_glob, globs_1, getO_some, wp_nil, wv_strI (by decide), wp_nil, wv_len_str, num_bil, go_gt, asBool_bool]
  by_cases c1 : ((10 : Nat) : Int) < (u.length : Int)
  · rw [brB_pos c1]
    exact ⟨rfl, rfl, no (by unfold hBad; rw [decide_eq_true (show 10 < u.length by omega), Bool.true_or, Bool.or_true])⟩
  rw [brB_neg c1]
  show wpS T_13 (callF T_13 d) (.each 1 (.var 0) (.cons (.ite (.cmp .notin (.var 1) (.glob 2)) (.cons (.raise 1 "no height") .nil) .nil) .nil)) [some (.str u), none, none] H _ _ _
  refine sign_loop (rest := [none]) ?_ ?_ ?_
  · intro ch Q E h
    rw [wp_cmp, wp_var, getV_s, getV_zero, wp_glob, globs_2, getO_some, go_notin]; exact h
  · intro f ch
    exact ⟨rfl, rfl, no (by unfold hBad; rw [f]; simp only [Bool.not_false, Bool.true_or, Bool.or_true])⟩
  intro f x
  have l0 : 0 < u.cps.size := by show 0 < u.length; omega
  have h0 : u.cps[0]? = some u.cps[0] := Array.getElem?_eq_getElem l0
  have fin : wpSs T_13 (callF T_13 d) (.cons (.assign 2 (.bf .int (.cons (.var 0) .nil))) (.cons (.ite (.cmp .gt (.var 2) (.glob 1)) (.cons (.raise 1 "too great a height") .nil) .nil) (.cons (.ret (.some (.var 2))) .nil))) [some (.str u), x, none] H (fun _ H' => H' = H ∧ ∃ n, hOf u = some n ∧ Val.none = .int n) (fun v H' => H' = H ∧ ∃ n, hOf u = some n ∧ v = .int n) (fun c _ H' => c = 1 ∧ hOf u = none) ∨ (decide (1 < u.length) && (u.cps[0]? == some 48)) = true := by
    by_cases z : (decide (1 < u.length) && (u.cps[0]? == some 48)) = true
    · exact .inr z
    refine .inl ?_
    rw [wps_cons, wps_assign, wp_bf, wp_cons, wp_var, getV_zero, wp_nil, wv_intS f (by omega) (by omega)]
    show wpSs T_13 (callF T_13 d) _ [some (.str u), x, some (.int (figVal u : Int))] H _ _ _
    rw [wps_cons, wps_ite, wp_cmp, wp_var, getV_succ, getV_succ, getV_zero, wp_glob, globs_1, getO_some, go_gt, asBool_bool]
    have hb : hBad u = decide (1000000000 < figVal u) := by
      unfold hBad
      rw [decide_eq_false c0, decide_eq_false (show ¬ 10 < u.length by omega), eq_false_of_ne_true z, f]
      rfl
    by_cases c2 : (1000000000 : Int) < (figVal u : Int)
    · rw [brB_pos c2]
      exact ⟨rfl, rfl, no (hb.trans (decide_eq_true (by omega)))⟩
    · rw [brB_neg c2]
      have : hOf u = some (figVal u : Int) := if_neg (by rw [hb, decide_eq_false (by omega)]; exact Bool.false_ne_true)
      show getV [x, some (.int (figVal u : Int))] 1 _
      rw [getV_succ, getV_zero]
      exact ⟨rfl, _, this, rfl⟩
  show wpE T_13 (callF T_13 d) (.and (.cmp .eq (.sub (.var 0) (.int 0)) (.str "0")) (.cmp .gt (.bf .len (.cons (.var 0) .nil)) (.int 1))) [some (.str u), x, none] H _ _
  rw [wp_and, wp_cmp, wp_sub, wp_var, getV_zero, wp_int, ws_str (k := 0) (p := 0) (show placeOf 0 u.length = some 0 from place_nat 0 u.length (by omega)) h0, wp_str, go_eqS (ok_one hu h0) ok_zero, one_iff _ 48 _ (by decide +kernel), ← h0, asBool_bool]
  refine brB_cases (fun z => ?_) fun z => ?_
  · rw [wp_cmp, wp_bf, wp_cons, wp_var, getV_zero, wp_nil, wv_len_str, wp_int, go_gt, asBool_bool]
    by_cases c2 : (1 : Int) < (u.length : Int)
    · rw [brB_pos c2]
      exact ⟨rfl, rfl, no (by unfold hBad; rw [z, decide_eq_true (show 1 < u.length by omega)]; simp only [Bool.and_true, Bool.true_or, Bool.or_true])⟩
    · rw [brB_neg c2]
      refine fin.resolve_right ?_
      rw [decide_eq_false (show ¬ 1 < u.length by omega)]
      exact Bool.false_ne_true
  · rw [asBool_bool, brB_false]
    refine fin.resolve_right ?_
    rw [z, Bool.and_false]
    exact Bool.false_ne_true
end
end Mine.Pure
-- part LT3
namespace Mine.Pure
open PySem PySem.Builtin PySem.Builtin.Str
section
variable {T : Tab} {Φ : Funs} {Γ : Env'} {H : Hp} {Q : Val → Hp → Prop} {E : Nat → Hp → Prop} {d : Nat} {QS : Env' → Hp → Prop} {R : Val → Hp → Prop} {ES : Nat → Env' → Hp → Prop}
theorem wp_neg1 : wpE T Φ (.neg (.int 1)) Γ H Q E = Q (.int (-1)) H := rfl
theorem place_last {n : Nat} (h : 1 ≤ n) : placeOf (-1) n = some (n - 1) := by
  unfold placeOf
  rw [if_neg (by decide), if_pos (by omega)]
  exact congrArg some (by omega)
theorem wp_lastStar {w : Str} {i : Nat} (hi : Γ[i]? = some (some (.str w))) (hw : Ok w) (h1 : 1 ≤ w.length) : wpE T Φ (.cmp .eq (.sub (.var i) (.neg (.int 1))) (.str "*")) Γ H Q E = Q (.bool (starred w)) H := by
  have lt : w.length - 1 < w.cps.size := by show w.cps.size - 1 < w.cps.size; have : 1 ≤ w.cps.size := h1; omega
  have hc : w.cps[w.length - 1]? = some w.cps[w.length - 1] := Array.getElem?_eq_getElem lt
  rw [wp_cmp, wp_sub, wp_var, getV_of hi, wp_neg1, ws_str (place_last h1) hc, wp_str, go_eqS (ok_one hw hc) ok_star, one_iff _ 42 _ (by decide +kernel), ← hc]
  rfl
theorem star_no {w : Str} (h : w.length = 0) : starred w = false := by
  unfold starred
  rw [Array.getElem?_eq_none (show w.cps.size ≤ w.length - 1 by show w.length ≤ _; omega)]
  rfl
theorem wp_sliceStar {w : Str} {i : Nat} (hi : Γ[i]? = some (some (.str w))) (hw : Ok w) : wpE T Φ (.cmp .eq (.slice (.var i) (.some (.neg (.int 1))) .none) (.str "*")) Γ H Q E = Q (.bool (starred w)) H := by
  rw [wp_cmp, wp_slice, wp_var, getV_of hi, wp_oSome, wp_neg1, wp_oNone, wsl_str w _ _ rfl rfl, wp_str, go_eqS (ok_slice hw _ _) ok_star]
  by_cases h : w.length = 0
  · rw [slice_nil w h, star_no h]
    have : (w == ("*" : Str)) = false := by
      refine eq_false_of_ne_true fun e => ?_
      rw [beq_iff_eq.mp e] at h
      exact absurd h (by decide +kernel)
    rw [this]
  · obtain ⟨c, e1, e2⟩ := slice_last w (by omega)
    rw [e2, one_iff _ 42 _ (by decide +kernel), ← e1]
    rfl
theorem wp_cutW {w : Str} {i : Nat} (hi : Γ[i]? = some (some (.str w))) : wpE T Φ (.slice (.var i) .none (.some (.neg (.int 1)))) Γ H Q E = Q (.str (Txt.slice w none (some (-1)))) H := by
  rw [wp_slice, wp_var, getV_of hi, wp_oNone, wp_oSome, wp_neg1, wsl_str w _ _ rfl rfl]
theorem cut_le (w : Str) : (cutW w).length ≤ w.length := by
  unfold cutW; split
  · exact Txt.slice_le w _ _
  · exact Nat.le_refl _
end
section
variable {H : Hp} {d : Nat}
theorem l13_lawTail {u : Str} {x : Option Val} (hu : Ok u) (v : Val) (e : v = match hOf u with | some n => .int n | none => .int (-1)) :
    wpSs T_13 (callF T_13 d) (.cons (.ite (.or (.cmp .eq (.bf .len (.cons (.var 0) .nil)) (.int 0)) (.or (.cmp .gt (.bf .len (.cons (.var 0) .nil)) (.int 10)) (.and (.cmp .gt (.bf .len (.cons (.var 0) .nil)) (.int 1)) (.cmp .eq (.sub (.var 0) (.int 0)) (.str "0"))))) (.cons (.ret (.some (.neg (.int 1)))) .nil) .nil) (.cons (.each 1 (.var 0) (.cons (.ite (.cmp .notin (.var 1) (.str "0123456789")) (.cons (.ret (.some (.neg (.int 1)))) .nil) .nil) .nil)) (.cons (.ite (.cmp .gt (.bf .int (.cons (.var 0) .nil)) (.int 1000000000)) (.cons (.ret (.some (.neg (.int 1)))) .nil) .nil) (.cons (.ret (.some (.bf .int (.cons (.var 0) .nil)))) .nil)))) [some (.str u), x] H (fun _ H' => Val.none = v ∧ H' = H) (fun w H' => w = v ∧ H' = H) (fun _ _ _ => False) := by
  have no : hBad u = true → v = .int (-1) := fun h => by rw [e, show hOf u = none from if_pos h]
  rw [wps_cons, wps_ite, wp_or, wp_cmp, wp_bf, wp_cons, wp_var, getV_zero, wp_nil, wv_len_str, wp_int, go_eq, asBool_bool]
  by_cases c0 : (u.length : Int) = 0
  · rw [brB_pos c0]
    exact ⟨(no (by unfold hBad; rw [decide_eq_true (show u.length = 0 by omega)]; rfl)).symm, rfl⟩
  rw [brB_neg c0, wp_or, wp_cmp, wp_bf, wp_cons, wp_var, getV_zero, wp_nil, wv_len_str, wp_int, go_gt, asBool_bool]
  by_cases c1 : (10 : Int) < (u.length : Int)
  · rw [brB_pos c1]
    exact ⟨(no (by unfold hBad; rw [decide_eq_true (show 10 < u.length by omega), Bool.true_or, Bool.or_true])).symm, rfl⟩
  rw [brB_neg c1, wp_and, wp_cmp, wp_bf, wp_cons, wp_var, getV_zero, wp_nil, wv_len_str, wp_int, go_gt, asBool_bool]
  have l0 : 0 < u.cps.size := by show 0 < u.length; omega
  have h0 : u.cps[0]? = some u.cps[0] := Array.getElem?_eq_getElem l0
  have fin : (decide (1 < u.length) && (u.cps[0]? == some 48)) = false → wpSs T_13 (callF T_13 d) (.cons (.each 1 (.var 0) (.cons (.ite (.cmp .notin (.var 1) (.str "0123456789")) (.cons (.ret (.some (.neg (.int 1)))) .nil) .nil) .nil)) (.cons (.ite (.cmp .gt (.bf .int (.cons (.var 0) .nil)) (.int 1000000000)) (.cons (.ret (.some (.neg (.int 1)))) .nil) .nil) (.cons (.ret (.some (.bf .int (.cons (.var 0) .nil)))) .nil))) [some (.str u), x] H (fun _ H' => Val.none = v ∧ H' = H) (fun w H' => w = v ∧ H' = H) (fun _ _ _ => False) := by
    intro z
    rw [wps_cons]
    refine sign_loop (rest := []) ?_ ?_ ?_
    · intro ch Q E h
      rw [wp_cmp, wp_var, getV_s, getV_zero, wp_str, go_notin]; exact h
    · intro f ch
      exact ⟨(no (by unfold hBad; rw [f]; simp only [Bool.not_false, Bool.true_or, Bool.or_true])).symm, rfl⟩
    intro f x
    have hb : hBad u = decide (1000000000 < figVal u) := by
      unfold hBad
      rw [decide_eq_false (show ¬ u.length = 0 by omega), decide_eq_false (show ¬ 10 < u.length by omega), z, f]
      rfl
    rw [wps_cons, wps_ite, wp_cmp, wp_bf, wp_cons, wp_var, getV_zero, wp_nil, wv_intS f (by omega) (by omega), wp_int, go_gt, asBool_bool]
    by_cases c2 : (1000000000 : Int) < (figVal u : Int)
    · rw [brB_pos c2]
      exact ⟨(no (hb.trans (decide_eq_true (by omega)))).symm, rfl⟩
    · rw [brB_neg c2, wps_nil, wps_cons, wps_ret, wp_oSome, wp_bf, wp_cons, wp_var, getV_zero, wp_nil, wv_intS f (by omega) (by omega)]
      have : hOf u = some (figVal u : Int) := if_neg (by rw [hb, decide_eq_false (by omega)]; exact Bool.false_ne_true)
      exact ⟨by rw [e, this], rfl⟩
  by_cases c2 : (1 : Int) < (u.length : Int)
  · rw [brB_pos c2, wp_cmp, wp_sub, wp_var, getV_zero, wp_int, ws_str (k := 0) (p := 0) (show placeOf 0 u.length = some 0 from place_nat 0 u.length (by omega)) h0, wp_str, go_eqS (ok_one hu h0) ok_zero, one_iff _ 48 _ (by decide +kernel), ← h0, asBool_bool]
    refine brB_cases (fun z => ?_) fun z => ?_
    · exact ⟨(no (by unfold hBad; rw [z, decide_eq_true (show 1 < u.length by omega)]; simp only [Bool.and_true, Bool.true_or, Bool.or_true])).symm, rfl⟩
    · exact fin (by rw [z, Bool.and_false])
  · rw [brB_neg c2]
    exact fin (by rw [decide_eq_false (show ¬ 1 < u.length by omega), Bool.false_and])
theorem l13_lawH {w : Str} (hw : Ok w) : Wp (callF T_13 (d + 1) 8 [.str w]) H (fun v H' => v = valL w ∧ H' = H) NoE := by
  rw [wp_call (g := f8_13) rfl rfl]
  unfold f8_13
  show wpSs T_13 _ (.cons _ _) [some (.str w), none] H _ _ _
  rw [wps_cons, wps_ite, wp_cmp, wp_var, getV_zero, wp_str, go_eqS hw ok_stone, asBool_bool]
  refine brB_cases (fun z => ?_) fun z => ?_
  · have : valL w = .none := by unfold valL valW; rw [z]; rfl
    exact ⟨this.symm, rfl⟩
  have ev : valL w = match hOf (cutW w) with | some n => .int n | none => .int (-1) := by
    unfold valL valW
    rw [z, if_neg Bool.false_ne_true]
    cases hOf (cutW w) <;> rfl
  have go : ∀ x, wpSs T_13 (callF T_13 d) _ [some (.str (cutW w)), x] H (fun _ H' => Val.none = valL w ∧ H' = H) (fun v H' => v = valL w ∧ H' = H) (fun _ _ _ => False) := fun x => l13_lawTail (ok_cut hw) (valL w) ev
  rw [wps_nil, wps_cons, wps_ite, wp_and, wp_cmp, wp_bf, wp_cons, wp_var, getV_zero, wp_nil, wv_len_str, wp_int, go_gt, asBool_bool]
  by_cases c0 : (0 : Int) < (w.length : Int)
  · rw [brB_pos c0, wp_lastStar rfl hw (by omega), asBool_bool]
    refine brB_cases (fun s => ?_) fun s => ?_
    · rw [wps_cons, wps_assign, wp_cutW rfl]
      have : cutW w = Txt.slice w none (some (-1)) := by unfold cutW; rw [s]; rfl
      rw [this] at go
      exact go none
    · have : cutW w = w := by unfold cutW; rw [s]; rfl
      rw [this] at go
      exact go none
  · rw [brB_neg c0]
    have : cutW w = w := by unfold cutW; rw [star_no (show w.length = 0 by omega)]; rfl
    rw [this] at go
    exact go none
end
end Mine.Pure
-- part LT4
namespace Mine.Pure
open PySem PySem.Builtin PySem.Builtin.Str
noncomputable def linesT (t : Str) : List Str := Txt.split t ("\n" : Str)
noncomputable def wordsT (ln : Str) : List Str := Txt.split ln (" " : Str)
noncomputable def W13 (t : Str) : List (List Str) := (linesT t).map wordsT
noncomputable def grid13 (t : Str) : List (List Val) := (W13 t).map fun ws => ws.map valL
noncomputable def drAt (ws : List Str) (j : Nat) : Bool := match ws[j]? with
  | some w => drW w
  | none => false
theorem drAt_of {ws : List Str} {j : Nat} {w : Str} (h : ws[j]? = some w) : drAt ws j = drW w := by unfold drAt; rw [h]
noncomputable def rowD (i : Nat) (ws : List Str) (j : Nat) : List Val := ((List.range j).filter (drAt ws)).map fun (j : Nat) => .tup [.int (i : Int), .int (j : Int)]
noncomputable def cellV (i j : Nat) : Val := .tup [.int (i : Int), .int (j : Int)]
theorem rowD_yes {i j : Nat} {ws : List Str} (h : drAt ws j = true) : rowD i ws (j + 1) = rowD i ws j ++ [cellV i j] := by
  unfold rowD
  rw [List.range_succ, List.filter_append, List.map_append, List.filter_cons_of_pos h]; rfl
theorem rowD_no {i j : Nat} {ws : List Str} (h : drAt ws j = false) : rowD i ws (j + 1) = rowD i ws j := by
  unfold rowD
  rw [List.range_succ, List.filter_append, List.map_append, List.filter_cons_of_neg (by rw [h]; exact Bool.false_ne_true)]
  exact List.append_nil _
theorem rowD_len (i : Nat) (ws : List Str) (j : Nat) : (rowD i ws j).length ≤ j := by
  unfold rowD
  rw [List.length_map]
  refine Nat.le_trans (List.length_filter_le _ _) ?_
  rw [List.length_range]; exact Nat.le_refl _
noncomputable def allD (W : List (List Str)) (k : Nat) : List Val := (List.range k).flatMap fun i => rowD i (W.getD i []) (W.getD i []).length
theorem allD_succ {W : List (List Str)} {k : Nat} {ws : List Str} (h : W[k]? = some ws) : allD W (k + 1) = allD W k ++ rowD k ws ws.length := by
  unfold allD
  rw [List.range_succ, List.flatMap_append]
  congr 1
  show rowD k (W.getD k []) (W.getD k []).length ++ [] = _
  rw [List.append_nil, List.getD_eq_getElem?_getD, h]; rfl
theorem allD_len {W : List (List Str)} {B : Nat} (h : ∀ ws ∈ W, ws.length ≤ B) (k : Nat) (hk : k ≤ W.length) : (allD W k).length ≤ k * B := by
  induction k with
  | zero => exact Nat.zero_le _
  | succ k ih =>
    have lt : k < W.length := hk
    rw [allD_succ (List.getElem?_eq_getElem lt), List.length_append, Nat.succ_mul]
    have h1 := rowD_len k W[k] W[k].length
    have h2 := h _ (List.getElem_mem lt)
    have h3 := ih (by omega)
    omega
structure Txt13 (t : Str) : Prop where
  ok : Ok t
  len : t.length ≤ 3300
theorem Txt13.line {t : Str} (h : Txt13 t) {ln : Str} (hl : ln ∈ linesT t) : Txt13 ln := ⟨ok_part h.ok hl, Nat.le_trans (part_len hl) h.len⟩
theorem Txt13.word {t : Str} (h : Txt13 t) {w : Str} (hl : w ∈ wordsT t) : Txt13 w := ⟨ok_part h.ok hl, Nat.le_trans (part_len hl) h.len⟩
theorem lines_len {t : Str} (h : Txt13 t) : 1 ≤ (linesT t).length ∧ (linesT t).length ≤ 3302 := by
  have h1 := split_len t ("\n" : Str)
  have h2 := h.len
  exact ⟨h1.1, Nat.le_trans h1.2 (by omega)⟩
theorem words_len {t : Str} (h : Txt13 t) : 1 ≤ (wordsT t).length ∧ (wordsT t).length ≤ 3302 := by
  have h1 := split_len t (" " : Str)
  have h2 := h.len
  exact ⟨h1.1, Nat.le_trans h1.2 (by omega)⟩
theorem W13_mem {t : Str} {ws : List Str} (h : ws ∈ W13 t) : ∃ ln ∈ linesT t, wordsT ln = ws := List.mem_map.mp h
theorem W13_len {t : Str} (h : Txt13 t) {ws : List Str} (hw : ws ∈ W13 t) : 1 ≤ ws.length ∧ ws.length ≤ 3302 := by
  obtain ⟨ln, hl, rfl⟩ := W13_mem hw
  exact words_len (h.line hl)
theorem W13_get {t : Str} {i : Nat} {ln : Str} (h : (linesT t)[i]? = some ln) : (W13 t)[i]? = some (wordsT ln) := by
  unfold W13; rw [List.getElem?_map, h]; rfl
theorem all_small {t : Str} (h : Txt13 t) {i : Nat} (hi : i ≤ (W13 t).length) : (allD (W13 t) i).length ≤ 3302 * 3302 := by
  refine Nat.le_trans (allD_len (B := 3302) (fun ws hw => (W13_len h hw).2) i hi) (Nat.mul_le_mul_right _ ?_)
  have : (W13 t).length = (linesT t).length := List.length_map ..
  have := (lines_len h).2
  omega
structure RI (o : Nat) (H K : Hp) (t : Str) (i : Nat) (D : List Val) : Prop where
  ext : Ext H K
  top : K[H.length]? = some (.list ((List.range i).map fun j => .loc (H.length + 3 + o + 2 * j)))
  dr : K[H.length + 1]? = some (.list D)
  ln : K[H.length + 2]? = some (.list ((linesT t).map .str))
  row : ∀ (j : Nat) (ws : List Str), j < i → (W13 t)[j]? = some ws → K[H.length + 3 + o + 2 * j]? = some (.list (ws.map valL))
theorem RI.ext' {o : Nat} {H K K' : Hp} {t : Str} {i : Nat} {D : List Val} (x : RI o H K t i D) (e : Ext K K') : RI o H K' t i D :=
  ⟨x.ext.trans e, e.get x.top, e.get x.dr, e.get x.ln, fun j ws hj hw => e.get (x.row j ws hj hw)⟩
theorem RI.set {o : Nat} {H K : Hp} {t : Str} {i : Nat} {D : List Val} (x : RI o H K t i D) {m : Nat} (hm : H.length + 3 + o + 2 * i ≤ m) (ob : HObj) : RI o H (K.set m ob) t i D :=
  ⟨x.ext.set (by omega) ob, get_other ob (by omega) x.top, get_other ob (by omega) x.dr, get_other ob (by omega) x.ln, fun j ws hj hw => get_other ob (by omega) (x.row j ws hj hw)⟩
theorem RI.more {o : Nat} {H K : Hp} {t : Str} {i : Nat} {D : List Val} (x : RI o H K t i D) (D' : List Val) : RI o H (K.set (H.length + 1) (.list D')) t i D' :=
  ⟨x.ext.set (by omega) _, get_other _ (by omega) x.top, get_set _ x.dr, get_other _ (by omega) x.ln, fun j ws hj hw => get_other _ (by omega) (x.row j ws hj hw)⟩
theorem RI.next {o : Nat} {H K : Hp} {t : Str} {i : Nat} {D : List Val} (x : RI o H K t i D) {ws : List Str} (hw : (W13 t)[i]? = some ws) (hr : K[H.length + 3 + o + 2 * i]? = some (.list (ws.map valL))) :
    RI o H (K.set H.length (.list ((List.range i).map (fun j => Val.loc (H.length + 3 + o + 2 * j)) ++ [.loc (H.length + 3 + o + 2 * i)]))) t (i + 1) D := by
  refine ⟨x.ext.set (Nat.le_refl _) _, ?_, get_other _ (by omega) x.dr, get_other _ (by omega) x.ln, fun j vs hj hv => get_other _ (by omega) ?_⟩
  · rw [get_set _ x.top, List.range_succ, List.map_append]; rfl
  · by_cases c : j < i
    · exact x.row j vs c hv
    · have : j = i := by omega
      subst this
      rw [hw] at hv
      cases hv
      exact hr
theorem RI.grid {o : Nat} {H K : Hp} {t : Str} {D : List Val} (x : RI o H K t (W13 t).length D) : GAt K H.length (H.length + 3 + o) 2 (grid13 t) := by
  have e : (grid13 t).length = (W13 t).length := List.length_map ..
  refine ⟨by rw [e]; exact x.top, fun i r h => ?_⟩
  unfold grid13 at h
  rw [List.getElem?_map] at h
  obtain ⟨ws, hw, rfl⟩ := Option.map_eq_some_iff.mp h
  exact x.row i ws (List.getElem?_eq_some_iff.mp hw).1 hw
section
variable {T : Tab} {Φ : Funs} {Γ : Env'} {H K0 : Hp} {Q : Val → Hp → Prop} {E : Nat → Hp → Prop} {d : Nat} {QS : Env' → Hp → Prop} {R : Val → Hp → Prop} {ES : Nat → Env' → Hp → Prop}
theorem count_get : ∀ (xs : List Val) (n : Nat), (countUp n xs).length = xs.length ∧ ∀ (k : Nat) z, (countUp n xs)[k]? = some z → ∃ x, xs[k]? = some x ∧ z = .tup [.int ((n + k : Nat) : Int), x]
  | [], n => ⟨rfl, fun k z h => by cases h⟩
  | x :: xs, n => by
    obtain ⟨h1, h2⟩ := count_get xs (n + 1)
    refine ⟨congrArg (· + 1) h1, fun k z h => ?_⟩
    cases k with
    | zero => cases h; exact ⟨x, rfl, rfl⟩
    | succ k =>
      obtain ⟨y, e1, e2⟩ := h2 k z h
      exact ⟨y, e1, by rw [e2, show n + 1 + k = n + (k + 1) by omega]⟩
theorem wps_enumL {i j l : Nat} {it : ME} {body : MSs} {xs : List Val} (I : Nat → Env' → Hp → Prop) (hit : wpE T Φ it Γ H (fun v H' => v = .loc l ∧ H' = K0) NoE) (h0 : I 0 Γ K0) (hx : ∀ k Γ K, I k Γ K → K[l]? = some (.list xs))
    (hs : ∀ (k : Nat) x Γ K, xs[k]? = some x → I k Γ K → wpSs T Φ body ((Γ.set i (some (.int (k : Int)))).set j (some x)) K (I (k + 1)) R ES) (hd : ∀ Γ K, I xs.length Γ K → QS Γ K) : wpS T Φ (.eachEnum i j it body) Γ H QS R ES := by
  refine wps_eachEnum (wpE_then hit ?_)
  rintro v H' ⟨rfl, rfl⟩
  rw [getO_of (listOf_list (hx 0 Γ H' h0))]
  obtain ⟨c1, c2⟩ := count_get xs 0
  refine wps_eachN I h0 ?_ (fun k Γ K _ h => chk_list (hx k Γ K h)) ?_
  · intro Γ K h; rw [show (countUp 0 xs).length = xs.length from c1] at h; exact hd Γ K h
  · intro k z Γ K hz h
    obtain ⟨x, h1, rfl⟩ := c2 k z hz
    refine ⟨_, rfl, ?_⟩
    rw [Nat.zero_add]
    exact hs k x Γ K h1 h
theorem wps_listM {i l : Nat} {it : ME} {body : MSs} {xs : List Val} (I : Nat → Env' → Hp → Prop) (hit : wpE T Φ it Γ H (fun v H' => v = .loc l ∧ H' = K0) NoE) (h0 : I 0 Γ K0) (hx : ∀ k Γ K, I k Γ K → K[l]? = some (.list xs))
    (hs : ∀ k x Γ K, xs[k]? = some x → I k Γ K → wpSs T Φ body (Γ.set i (some x)) K (I (k + 1)) R ES) (hd : ∀ Γ K, I xs.length Γ K → QS Γ K) : wpS T Φ (.each i it body) Γ H QS R ES := by
  refine wps_each (wpE_then hit ?_)
  rintro v H' ⟨rfl, rfl⟩
  rw [getO_of (iter_list (hx 0 Γ H' h0))]
  exact wps_eachN I h0 hd (fun k Γ K _ h => chk_list (hx k Γ K h)) fun k x Γ K hx h => ⟨_, rfl, hs k x Γ K hx h⟩
theorem wp_splitE {i : Nat} {x y : Str} (hi : Γ[i]? = some (some (.str x))) (hy : (y.length == 0) = false) (hx : x.length ≤ 3300) : wpE T Φ (.bm (.var i) .split (.cons (.str y) .nil)) Γ H Q E = Q (.loc H.length) (H ++ [.list ((Txt.split x y).map .str)]) := by
  rw [wp_bm, wp_var, getV_of hi, getO_of (show bmFits .split (.str x) H = some () from rfl), wp_cons, wp_str, wp_nil, wm_split hy (by show x.length + 2 ≤ 16777216; omega)]
theorem str_get {xs : List Str} {k : Nat} {v : Val} (h : (xs.map Val.str)[k]? = some v) : ∃ w, xs[k]? = some w ∧ v = .str w := by
  rw [List.getElem?_map] at h
  obtain ⟨w, e, rfl⟩ := Option.map_eq_some_iff.mp h
  exact ⟨w, e, rfl⟩
theorem nl_len : ((("\n" : Str).length) == 0) = false := by decide +kernel
theorem sp_len : (((" " : Str).length) == 0) = false := by decide +kernel
end
end Mine.Pure
-- part LT5
namespace Mine.Pure
open PySem PySem.Builtin PySem.Builtin.Str
noncomputable def badRow (W : List (List Str)) (ws : List Str) : Bool := (ws.any fun w => (valW w).isNone) || (!decide (ws.length = (W.headD []).length) || (decide (30 < ws.length) || decide (30 < W.length)))
noncomputable def GoodT (t : Str) : Prop := ∀ ws ∈ W13 t, badRow (W13 t) ws = false
noncomputable def dataW (w : Str) : PyData := match valL w with
  | .int i => .int i
  | _ => .none
theorem valL_two (w : Str) : valL w = .none ∨ ∃ i, valL w = .int i := by
  unfold valL
  cases h : valW w with
  | none => exact .inr ⟨_, rfl⟩
  | some v =>
    rcases val_hv h with rfl | ⟨i, rfl, _⟩
    · exact .inl rfl
    · exact .inr ⟨_, rfl⟩
theorem dataL {H : Hp} (n : Nat) (w : Str) : dataOf H n (valL w) = some (dataW w) := by
  unfold dataW
  rcases valL_two w with e | ⟨i, e⟩
  · rw [e, data_none]
  · rw [e, data_int]
theorem dats_row {H : Hp} (n : Nat) : ∀ ws : List Str, dats (dataOf H n) (ws.map valL) = some (ws.map dataW)
  | [] => rfl
  | w :: ws => by
    show (match dataOf H n (valL w), dats (dataOf H n) (ws.map valL) with | some d, some ds => some (d :: ds) | _, _ => none) = _
    rw [dataL, dats_row n ws]; rfl
theorem eqv_bad (w : Str) : PyData.eqv (dataW w) (.int (-1)) = (valW w).isNone := by
  unfold dataW valL
  cases h : valW w with
  | none => rfl
  | some v =>
    rcases val_hv h with rfl | ⟨i, rfl, h0, _⟩
    · rfl
    · show decide (i = -1) = false
      exact decide_eq_false (by omega)
theorem in_row {H : Hp} {l : Nat} {ws : List Str} (h : H[l]? = some (.list (ws.map valL))) : cmpV .isin (.int (-1)) (.loc l) H = some (ws.any fun w => (valW w).isNone) := by
  have e : cmpV .isin (.int (-1)) (.loc l) H = inList H (.int (-1)) (ws.map valL) := by
    show inV (.int (-1)) (.loc l) H = _
    unfold inV; simp only [h]
  rw [e]
  unfold inList
  rw [data_int, dats_row]
  show some ((ws.map dataW).any fun y => PyData.eqv y (.int (-1))) = _
  rw [List.any_map]
  congr 2
  funext w
  exact eqv_bad w
section
variable {H : Hp} {d : Nat} {QS : Env' → Hp → Prop} {R : Val → Hp → Prop}
theorem l13_lawRow {Γ : Env'} {l : Nat} {ws : List Str} {Q : Val → Hp → Prop} {E : Nat → Hp → Prop} (hΓ : Γ.length = 8) (h4 : Γ[4]? = some (some (.loc l))) (hl : H[l]? = some (.list (ws.map .str))) (hw : ∀ w ∈ ws, Ok w) (hn : ws.length ≤ 3302) (q : Q (.loc H.length) (H ++ [.list (ws.map valL)])) :
    wpE T_13 (callF T_13 (d + 1)) (.comp (.call 8 (.cons (.var 8) .nil)) (.var 4) .none) Γ H Q E := by
  refine comp_pure (xs := ws.map .str) (src := some l) (fun k v => ∀ w, ws[k]? = some w → v = valL w) ?_ (chk_list hl) (by rw [List.length_map]; show ws.length < 16777216; omega) ?_ ?_
  · rw [wp_var, getV_of h4]; exact ⟨rfl, iter_list hl⟩
  · intro k x hx
    obtain ⟨w, e, rfl⟩ := str_get hx
    have g : (Γ ++ [some (Val.str w)])[8]? = some (some (.str w)) := by rw [List.getElem?_append_right (by omega), hΓ]; rfl
    rw [wp_callE, wp_cons, wp_var, getV_of g, wp_nil]
    refine (l13_lawH (hw w (List.mem_of_getElem? e))).then ?_
    rintro v H' ⟨rfl, rfl⟩
    exact ⟨fun w' e' => by rw [e] at e'; cases e'; rfl, rfl⟩
  · intro ys hl hy
    have : ys = ws.map valL := by
      refine List.ext_getElem? fun i => ?_
      rw [List.length_map] at hl
      by_cases c : i < ws.length
      · have e : ws[i]? = some ws[i] := List.getElem?_eq_getElem c
        have e2 : ys[i]? = some ys[i] := List.getElem?_eq_getElem (by omega)
        rw [List.getElem?_map, e, e2, hy i _ e2 _ e]; rfl
      · rw [List.getElem?_eq_none (by omega), List.getElem?_eq_none (by rw [List.length_map]; omega)]
    rw [this]; exact q
theorem l13_lawDr {K : Hp} {t ln : Str} {i : Nat} {x0 x5 x6 x7 : Option Val} (ht : Txt13 t) (hi : (linesT t)[i]? = some ln) (I0 : RI 1 H K t (i + 1) (allD (W13 t) i)) (hK : K.length = H.length + 5 + 2 * i) (hws : K[H.length + 3 + 2 * i]? = some (.list ((wordsT ln).map .str)))
    (q : ∀ K' a b, RI 1 H K' t (i + 1) (allD (W13 t) (i + 1)) → K'.length = H.length + 5 + 2 * i → QS [x0, some (.loc H.length), some (.loc (H.length + 1)), some (.str ln), some (.loc (H.length + 3 + 2 * i)), a, b, x7] K') :
    wpS T_13 (callF T_13 (d + 1)) (.eachEnum 5 6 (.var 4) (.cons (.ite (.and (.cmp .gt (.bf .len (.cons (.var 6) .nil)) (.int 1)) (.cmp .eq (.sub (.var 6) (.neg (.int 1))) (.str "*"))) (.cons (.expr (.bm (.var 2) .append (.cons (.tup (.cons (.bin .sub (.bf .len (.cons (.var 1) .nil)) (.int 1)) (.cons (.var 5) .nil))) .nil))) .nil) .nil) .nil))
      [x0, some (.loc H.length), some (.loc (H.length + 1)), some (.str ln), some (.loc (H.length + 3 + 2 * i)), x5, x6, x7] K QS R NoX := by
  have mem : ln ∈ linesT t := List.mem_of_getElem? hi
  have hln := ht.line mem
  have iw : i < (W13 t).length := by
    have := (List.getElem?_eq_some_iff.mp hi).1
    show i < ((linesT t).map wordsT).length
    rw [List.length_map]; exact this
  have sm := all_small ht (show i ≤ (W13 t).length by omega)
  obtain ⟨I, hI⟩ := hide3 (fun (k : Nat) (Γ : Env') (K' : Hp) => RI 1 H K' t (i + 1) (allD (W13 t) i ++ rowD i (wordsT ln) k) ∧ K'.length = H.length + 5 + 2 * i ∧ K'[H.length + 3 + 2 * i]? = some (.list ((wordsT ln).map .str)) ∧ ∃ a b, Γ = [x0, some (.loc H.length), some (.loc (H.length + 1)), some (.str ln), some (.loc (H.length + 3 + 2 * i)), a, b, x7])
  refine wps_enumL (K0 := K) I ?_ ((hI _ _ _).mpr ⟨by rw [show rowD i (wordsT ln) 0 = [] from rfl, List.append_nil]; exact I0, hK, hws, _, _, rfl⟩) (fun k Γ K h => ((hI _ _ _).mp h).2.2.1) ?_ ?_
  · rw [wp_var, getV_of rfl]; exact ⟨rfl, rfl⟩
  · intro k x Γ K1 hx h
    obtain ⟨R1, l1, w1, a, b, rfl⟩ := (hI _ _ _).mp h
    obtain ⟨w, hw, rfl⟩ := str_get hx
    have hwt := hln.word (List.mem_of_getElem? hw)
    show wpSs T_13 _ _ [x0, some (.loc H.length), some (.loc (H.length + 1)), some (.str ln), some (.loc (H.length + 3 + 2 * i)), some (.int (k : Int)), some (.str w), x7] K1 _ _ _
    have no : drW w = false → I (k + 1) [x0, some (.loc H.length), some (.loc (H.length + 1)), some (.str ln), some (.loc (H.length + 3 + 2 * i)), some (.int (k : Int)), some (.str w), x7] K1 := fun z =>
      (hI _ _ _).mpr ⟨by rw [rowD_no ((drAt_of hw).trans z)]; exact R1, l1, w1, _, _, rfl⟩
    rw [wps_cons, wps_ite, wp_and, wp_cmp, wp_bf, wp_cons, wp_var, getV_of rfl, wp_nil, wv_len_str, wp_int, go_gt, asBool_bool]
    by_cases c0 : (1 : Int) < (w.length : Int)
    · rw [brB_pos c0, wp_lastStar rfl hwt.ok (by omega), asBool_bool]
      have e : drW w = starred w := by unfold drW; rw [decide_eq_true (show 1 < w.length by omega)]; rfl
      refine brB_cases (fun z => ?_) fun z => ?_
      · rw [wps_cons, wps_expr]
        refine wp_appendE rfl R1.dr ?_
        rw [wp_tup, wp_cons, wp_bin, wp_bf, wp_cons, wp_var, getV_of rfl, wp_nil, wv_len_loc R1.top, wp_int, wv_sub, wp_cons, wp_var, getV_of rfl, wp_nil]
        rw [List.length_map, List.length_range, show (((i + 1 : Nat) : Int) - 1) = (i : Int) by omega]
        refine ⟨_, R1.dr, ?_, (hI _ _ _).mpr ⟨?_, ?_, get_other _ (by omega) w1, _, _, rfl⟩⟩
        · rw [List.length_append]
          have := rowD_len i (wordsT ln) k
          have := (words_len hln).2
          have := (List.getElem?_eq_some_iff.mp hw).1
          show _ < 16777216
          omega
        · rw [rowD_yes ((drAt_of hw).trans (e.trans z)), ← List.append_assoc]
          exact R1.more _
        · rw [List.length_set]; exact l1
      · exact no (e.trans z)
    · rw [brB_neg c0, asBool_bool, brB_false]
      exact no (by unfold drW; rw [decide_eq_false (show ¬ 1 < w.length by omega), Bool.false_and])
  · intro Γ K1 h
    obtain ⟨R1, l1, w1, a, b, rfl⟩ := (hI _ _ _).mp h
    rw [List.length_map] at R1
    refine q K1 a b ?_ l1
    rw [allD_succ (W13_get hi)]; exact R1
end
end Mine.Pure
-- part LT6
namespace Mine.Pure
open PySem PySem.Builtin PySem.Builtin.Str
section
variable {H : Hp} {d : Nat} {QS : Env' → Hp → Prop} {R : Val → Hp → Prop}
theorem l13_lawRows {t : Str} {x0 x3 x4 x5 x6 x7 : Option Val} (ht : Txt13 t) (h0 : x0 = some (.str t))
    (q : ∀ K' a b c e, RI 1 H K' t (W13 t).length (allD (W13 t) (W13 t).length) → QS [x0, some (.loc H.length), some (.loc (H.length + 1)), a, b, c, e, x7] K') :
    wpS T_13 (callF T_13 (d + 1)) (.each 3 (.bm (.var 0) .split (.cons (.str "\n") .nil)) (.cons (.assign 4 (.bm (.var 3) .split (.cons (.str " ") .nil))) (.cons (.expr (.bm (.var 1) .append (.cons (.comp (.call 8 (.cons (.var 8) .nil)) (.var 4) .none) .nil))) (.cons (.eachEnum 5 6 (.var 4) (.cons (.ite (.and (.cmp .gt (.bf .len (.cons (.var 6) .nil)) (.int 1)) (.cmp .eq (.sub (.var 6) (.neg (.int 1))) (.str "*"))) (.cons (.expr (.bm (.var 2) .append (.cons (.tup (.cons (.bin .sub (.bf .len (.cons (.var 1) .nil)) (.int 1)) (.cons (.var 5) .nil))) .nil))) .nil) .nil) .nil)) .nil))))
      [x0, some (.loc H.length), some (.loc (H.length + 1)), x3, x4, x5, x6, x7] (H ++ [.list []] ++ [.list []]) QS R NoX := by
  have wl : (W13 t).length = (linesT t).length := List.length_map ..
  have ll := lines_len ht
  have L2 : (H ++ [HObj.list []] ++ [HObj.list []]).length = H.length + 2 := by simp
  obtain ⟨I, hI⟩ := hide3 (fun (k : Nat) (Γ : Env') (K' : Hp) => k ≤ (linesT t).length ∧ RI 1 H K' t k (allD (W13 t) k) ∧ K'.length = H.length + 3 + 2 * k ∧ ∃ a b c e, Γ = [x0, some (.loc H.length), some (.loc (H.length + 1)), a, b, c, e, x7])
  refine wps_listM (l := H.length + 2) (K0 := H ++ [.list []] ++ [.list []] ++ [.list ((linesT t).map .str)]) I ?_ ((hI _ _ _).mpr ⟨Nat.zero_le _, ?_, by simp, _, _, _, _, rfl⟩) (fun k Γ K h => ((hI _ _ _).mp h).2.1.ln) ?_ ?_
  · rw [wp_splitE (x := t) (by rw [← h0]; rfl) nl_len ht.len, L2]; exact ⟨rfl, rfl⟩
  · have e1 : Ext (H ++ [HObj.list []]) (H ++ [.list []] ++ [.list []] ++ [.list ((linesT t).map .str)]) := ⟨[.list [], .list ((linesT t).map .str)], by simp⟩
    have e2 : Ext (H ++ [HObj.list []] ++ [HObj.list []]) (H ++ [.list []] ++ [.list []] ++ [.list ((linesT t).map .str)]) := ⟨_, rfl⟩
    refine ⟨⟨[.list [], .list [], .list ((linesT t).map .str)], by simp⟩, e1.get (get_new H _), ?_, ?_, fun j ws hj => absurd hj (Nat.not_lt_zero _)⟩
    · have := e2.get (get_new (H ++ [HObj.list []]) (.list []))
      rw [List.length_append] at this
      exact this
    · have := get_new (H ++ [HObj.list []] ++ [HObj.list []]) (.list ((linesT t).map Val.str))
      rw [L2] at this
      exact this
  · clear q
    intro k x Γ K hx h
    obtain ⟨hk, R1, l1, a, b, c, e, rfl⟩ := (hI _ _ _).mp h
    obtain ⟨ln, hln, rfl⟩ := str_get hx
    have lt := (List.getElem?_eq_some_iff.mp hln).1
    have tl := ht.line (List.mem_of_getElem? hln)
    have wl2 := words_len tl
    rw [wps_cons, wps_assign, wp_splitE (x := ln) rfl sp_len tl.len, l1]
    show wpSs T_13 (callF T_13 (d + 1)) _ [x0, some (.loc H.length), some (.loc (H.length + 1)), some (.str ln), some (.loc (H.length + 3 + 2 * k)), c, e, x7] (K ++ [.list ((wordsT ln).map .str)]) _ _ _
    have g1 : (K ++ [HObj.list ((wordsT ln).map .str)])[H.length + 3 + 2 * k]? = some (.list ((wordsT ln).map .str)) := by rw [← l1]; exact get_new _ _
    have R2 : RI 1 H (K ++ [HObj.list ((wordsT ln).map .str)]) t k (allD (W13 t) k) := R1.ext' ⟨_, rfl⟩
    rw [wps_cons, wps_expr]
    refine wp_appendE rfl R2.top ?_
    refine l13_lawRow rfl rfl g1 (fun w hw => (tl.word hw).ok) wl2.2 ?_
    have l2 : (K ++ [HObj.list ((wordsT ln).map .str)]).length = H.length + 3 + 1 + 2 * k := by rw [List.length_append, l1]; show _ + 1 = _; omega
    have R3 : RI 1 H (K ++ [HObj.list ((wordsT ln).map .str)] ++ [.list ((wordsT ln).map valL)]) t k (allD (W13 t) k) := R2.ext' ⟨_, rfl⟩
    have g2 : (K ++ [HObj.list ((wordsT ln).map .str)] ++ [.list ((wordsT ln).map valL)])[H.length + 3 + 1 + 2 * k]? = some (.list ((wordsT ln).map valL)) := by rw [← l2]; exact get_new _ _
    refine ⟨_, R3.top, ?_, ?_⟩
    · rw [List.length_map, List.length_range]; show k < 16777216; omega
    rw [l2]
    have R4 := R3.next (W13_get hln) g2
    refine l13_lawDr ht hln R4 ?_ ?_ fun K' a b R5 l5 => (hI _ _ _).mpr ⟨lt, R5, by rw [l5]; omega, _, _, _, _, rfl⟩
    · rw [List.length_set, List.length_append, l2]; show _ + 1 = _; omega
    · exact get_other _ (by omega) (Ext.get ⟨_, rfl⟩ g1)
  · intro Γ K h
    obtain ⟨hk, R1, l1, a, b, c, e, rfl⟩ := (hI _ _ _).mp h
    rw [List.length_map, ← wl] at R1
    exact q K a b c e R1
theorem ws_zero {l : Nat} {xs : List Val} {v : Val} {Q : Val → Hp → Prop} {E : Nat → Hp → Prop} (h : H[l]? = some (.list xs)) (hk : xs[0]? = some v) : Wp (subV (.loc l) (.int 0)) H Q E = Q v H := ws_eq3 (k := 0) h hk
theorem headD_get {W : List (List Str)} {w0 : List Str} (h : W[0]? = some w0) : W.headD [] = w0 := by
  cases W with
  | nil => exact nomatch h
  | cons x xs => exact Option.some.inj h
theorem l13_lawOk {K : Hp} {t : Str} {x0 x2 x3 x4 x5 x6 x7 : Option Val} {D : List Val} (ht : Txt13 t) (R1 : RI 1 H K t (W13 t).length D) (bad : ¬ GoodT t → R .none K) (q : GoodT t → ∀ a, QS [x0, some (.loc H.length), x2, x3, x4, x5, x6, a] K) :
    wpS T_13 (callF T_13 (d + 1)) (.each 7 (.var 1) (.cons (.ite (.or (.cmp .isin (.neg (.int 1)) (.var 7)) (.or (.cmp .ne (.bf .len (.cons (.var 7) .nil)) (.bf .len (.cons (.sub (.var 1) (.int 0)) .nil))) (.or (.cmp .gt (.bf .len (.cons (.var 7) .nil)) (.int 30)) (.cmp .gt (.bf .len (.cons (.var 1) .nil)) (.int 30))))) (.cons (.ret (.some .none)) .nil) .nil) .nil))
      [x0, some (.loc H.length), x2, x3, x4, x5, x6, x7] K QS R NoX := by
  have wl : (W13 t).length = (linesT t).length := List.length_map ..
  have ll := lines_len ht
  have lt0 : 0 < (W13 t).length := by omega
  have h0 : (W13 t)[0]? = some (W13 t)[0] := List.getElem?_eq_getElem lt0
  have i0 : ((List.range (W13 t).length).map fun j => Val.loc (H.length + 3 + 1 + 2 * j))[0]? = some (.loc (H.length + 3 + 1 + 2 * 0)) := by rw [List.getElem?_map, List.getElem?_range lt0]; rfl
  obtain ⟨I, hI⟩ := hide3 (fun (k : Nat) (Γ : Env') (K' : Hp) => K = K' ∧ (∃ a, Γ = [x0, some (.loc H.length), x2, x3, x4, x5, x6, a]) ∧ ∀ j ws, j < k → (W13 t)[j]? = some ws → badRow (W13 t) ws = false)
  refine wps_listL I ?_ R1.top ((hI _ _ _).mpr ⟨rfl, ⟨_, rfl⟩, fun j ws hj => absurd hj (Nat.not_lt_zero _)⟩) (fun k Γ K' h => by rw [← ((hI _ _ _).mp h).1]; exact R1.top) ?_ ?_
  · rw [wp_var, getV_of rfl]; exact ⟨rfl, rfl⟩
  · clear q
    intro k x Γ K' hx h
    obtain ⟨rfl, ⟨a, rfl⟩, h'⟩ := (hI _ _ _).mp h
    have lt : k < (W13 t).length := by have := (List.getElem?_eq_some_iff.mp hx).1; rw [List.length_map, List.length_range] at this; exact this
    rw [List.getElem?_map, List.getElem?_range lt] at hx
    cases hx
    have hk : (W13 t)[k]? = some (W13 t)[k] := List.getElem?_eq_getElem lt
    have gr := R1.row k _ lt hk
    have bd : badRow (W13 t) (W13 t)[k] = true → R .none K := fun z => bad fun g => by
      have := g _ (List.mem_of_getElem? hk)
      rw [z] at this
      exact nomatch this
    show wpSs T_13 _ _ [x0, some (.loc H.length), x2, x3, x4, x5, x6, some (.loc (H.length + 3 + 1 + 2 * k))] K _ _ _
    rw [wps_cons, wps_ite, wp_or, wp_cmp, wp_neg1, wp_var, getV_of rfl, getO_of (in_row gr), asBool_bool]
    refine brB_cases (fun z => ?_) fun z1 => ?_
    · exact bd (by unfold badRow; rw [z]; rfl)
    rw [wp_or, wp_cmp, wp_bf, wp_cons, wp_var, getV_of rfl, wp_nil, wv_len_loc gr, wp_bf, wp_cons, wp_sub, wp_var, getV_of rfl, wp_int, ws_zero R1.top i0, wp_nil, wv_len_loc (R1.row 0 _ lt0 h0), List.length_map, List.length_map, go_ne, asBool_bool]
    have hd : ((W13 t).headD []) = (W13 t)[0] := headD_get h0
    refine brB_cases (fun z => ?_) fun z2 => ?_
    · refine bd ?_
      unfold badRow
      rw [hd, decide_eq_false (show ¬ (W13 t)[k].length = (W13 t)[0].length from fun e => by rw [e, decide_eq_true rfl] at z; exact nomatch z)]
      simp only [Bool.not_false, Bool.true_or, Bool.or_true]
    rw [wp_or, wp_cmp, wp_bf, wp_cons, wp_var, getV_of rfl, wp_nil, wv_len_loc gr, List.length_map, wp_int, go_gt, asBool_bool]
    by_cases z3 : (30 : Int) < ((W13 t)[k].length : Int)
    · rw [brB_pos z3]
      exact bd (by unfold badRow; rw [decide_eq_true (show 30 < (W13 t)[k].length by omega)]; simp only [Bool.true_or, Bool.or_true])
    rw [brB_neg z3, wp_cmp, wp_bf, wp_cons, wp_var, getV_of rfl, wp_nil, wv_len_loc R1.top, List.length_map, List.length_range, wp_int, go_gt, asBool_bool]
    by_cases z4 : (30 : Int) < ((W13 t).length : Int)
    · rw [brB_pos z4]
      exact bd (by unfold badRow; rw [decide_eq_true (show 30 < (W13 t).length by omega)]; simp only [Bool.or_true])
    rw [brB_neg z4]
    have z2 : ((W13 t)[k].length : Int) = ((W13 t)[0].length : Int) := by
      have : decide (((W13 t)[k].length : Int) = ((W13 t)[0].length : Int)) = true := by rw [← Bool.not_eq_false']; exact z2
      exact of_decide_eq_true this
    have fin : badRow (W13 t) (W13 t)[k] = false := by
      unfold badRow
      rw [z1, hd, decide_eq_true (show (W13 t)[k].length = (W13 t)[0].length by omega), decide_eq_false (show ¬ 30 < (W13 t)[k].length by omega), decide_eq_false (show ¬ 30 < (W13 t).length by omega)]
      rfl
    refine (hI _ _ _).mpr ⟨rfl, ⟨_, rfl⟩, fun j ws hj hw => ?_⟩
    by_cases c : j < k
    · exact h' j ws c hw
    · have : j = k := by omega
      rw [this, hk] at hw
      cases hw
      exact fin
  · intro Γ K' h
    obtain ⟨rfl, ⟨a, rfl⟩, h'⟩ := (hI _ _ _).mp h
    refine q ?_ a
    intro ws hw
    obtain ⟨j, hj⟩ := List.getElem?_of_mem hw
    rw [List.length_map, List.length_range] at h'
    exact h' j ws (List.getElem?_eq_some_iff.mp hj).1 hj
theorem l13_landof {t : Str} (ht : Txt13 t) : Wp (callF T_13 (d + 2) 9 [.str t]) H (fun v K => Ext H K ∧ ((GoodT t ∧ v = .tup [.loc H.length, .loc (H.length + 1)] ∧ RI 1 H K t (W13 t).length (allD (W13 t) (W13 t).length)) ∨ (¬ GoodT t ∧ v = .none))) NoE := by
  rw [wp_call (g := f9_13) rfl rfl]
  unfold f9_13
  show wpSs T_13 _ (.cons _ _) [some (.str t), none, none, none, none, none, none, none] H _ _ _
  rw [wps_cons, wps_assign, wp_list, wp_nil, wps_cons, wps_assign, wp_list, wp_nil, List.length_append, wps_cons]
  refine l13_lawRows ht rfl fun K a b c e R1 => ?_
  rw [wps_cons]
  refine l13_lawOk ht R1 (fun g => ⟨R1.ext, .inr ⟨g, rfl⟩⟩) fun g a => ?_
  exact ⟨R1.ext, .inl ⟨g, rfl, R1⟩⟩
end
end Mine.Pure
-- part LT7
namespace Mine.Pure
open PySem PySem.Builtin PySem.Builtin.Str
section
variable {H : Hp} {d : Nat} {QS : Env' → Hp → Prop} {R : Val → Hp → Prop} {l b s : Nat} {g : List (List Val)}
theorem rw_lenB {w : List Val} {k : Nat} {Γ : Env'} {m : Str} {ss : MSs} {ES : Nat → Env' → Hp → Prop} (hk : Γ[k]? = some (some (.loc l))) (h : H[l]? = some (.list w)) (h1 : 1 ≤ w.length) (q : w.length ≤ 30 → wpSs T_13 (callF T_13 (d + 1)) ss Γ H QS R ES) (e : ES 1 Γ H) :
    wpSs T_13 (callF T_13 (d + 1)) (.cons (.ite (.or (.not (.isinst (.var k) .list)) (.not (.call 0 (.cons (.bf .len (.cons (.var k) .nil)) (.cons (.int 1) (.cons (.glob 0) .nil)))))) (.cons (.raise 1 m) .nil) .nil) ss) Γ H QS R ES := by
  rw [wps_cons, wps_ite, wp_or, wp_not, wp_isinst, wp_var, getV_of hk, wi_list _ _ h, asBool_bool, asBool_bool, brB_not, brB_true, wp_not, wp_callE, wp_cons, wp_bf, wp_cons, wp_var, getV_of hk, wp_nil, wv_len_loc h, wp_cons, wp_int, wp_cons, wp_glob, globs_0, getO_some, wp_nil, l13_wholeB, asBool_bool, asBool_bool, brB_not]
  by_cases c : (1 : Int) ≤ (w.length : Int) ∧ (w.length : Int) ≤ 30
  · rw [brB_pos c]; exact q (by omega)
  · rw [brB_neg c]; exact ⟨rfl, e⟩
theorem row_at {k : Nat} {x : Val} (G : GAt H l b s g) (hx : ((List.range g.length).map fun i => Val.loc (b + s * i))[k]? = some x) : ∃ w, x = .loc (b + s * k) ∧ g[k]? = some w ∧ H[b + s * k]? = some (.list w) := by
  have lt : k < g.length := by have := (List.getElem?_eq_some_iff.mp hx).1; simpa using this
  rw [G.item lt] at hx
  cases hx
  have hg : g[k]? = some g[k] := List.getElem?_eq_getElem lt
  exact ⟨g[k], rfl, hg, G.row k _ hg⟩
theorem l13_rowsBad (G : GAt H l b s g) (g1 : 1 ≤ g.length) (gw : ∀ w ∈ g, 1 ≤ w.length) (bad : ¬ ∀ w ∈ g, w.length ≤ 30 ∧ ∀ w0, g[0]? = some w0 → w.length = w0.length) : Wp (callF T_13 (d + 2) 4 [.loc l]) H (fun _ _ => False) (fun c _ => c = 1) := by
  rw [wp_call (g := f4_13) rfl rfl]
  unfold f4_13
  show wpSs T_13 _ (.cons _ _) [some (.loc l), none] H _ _ _
  refine rw_lenB rfl G.top (by rw [List.length_map, List.length_range]; exact g1) (fun _ => ?_) rfl
  obtain ⟨I, hI⟩ := hide3 (fun (k : Nat) (Γ : Env') (K : Hp) => H = K ∧ (∃ a, Γ = [some (.loc l), a]) ∧ ∀ j w, j < k → g[j]? = some w → w.length ≤ 30)
  rw [wps_cons]
  refine wps_listL I ⟨rfl, rfl⟩ G.top ((hI _ _ _).mpr ⟨rfl, ⟨_, rfl⟩, fun j w h => absurd h (Nat.not_lt_zero _)⟩) (fun k Γ K h => by rw [← ((hI _ _ _).mp h).1]; exact G.top) ?_ ?_
  · intro k x Γ K hx h
    obtain ⟨rfl, ⟨a, rfl⟩, h'⟩ := (hI _ _ _).mp h
    obtain ⟨w, rfl, hg, hr⟩ := row_at G hx
    refine rw_lenB (l := b + s * k) rfl hr (gw w (List.mem_of_getElem? hg)) (fun q => ?_) rfl
    refine (hI _ _ _).mpr ⟨rfl, ⟨_, rfl⟩, fun j w' hj hw => ?_⟩
    by_cases c : j < k
    · exact h' j w' c hw
    · have : j = k := by omega
      rw [this, hg] at hw
      cases hw; exact q
  intro Γ K h
  obtain ⟨rfl, ⟨a, rfl⟩, short⟩ := (hI _ _ _).mp h
  rw [List.length_map, List.length_range] at short
  obtain ⟨J, hJ⟩ := hide3 (fun (k : Nat) (Γ : Env') (K : Hp) => H = K ∧ (∃ a, Γ = [some (.loc l), a]) ∧ ∀ j w, j < k → g[j]? = some w → ∀ w0, g[0]? = some w0 → w.length = w0.length)
  have h0 : g[0]? = some g[0] := List.getElem?_eq_getElem g1
  rw [wps_cons]
  refine wps_listL J ⟨rfl, rfl⟩ G.top ((hJ _ _ _).mpr ⟨rfl, ⟨_, rfl⟩, fun j w h => absurd h (Nat.not_lt_zero _)⟩) (fun k Γ K h => by rw [← ((hJ _ _ _).mp h).1]; exact G.top) ?_ ?_
  · intro k x Γ K hx h
    obtain ⟨rfl, ⟨a, rfl⟩, h'⟩ := (hJ _ _ _).mp h
    obtain ⟨w, rfl, hg, hr⟩ := row_at G hx
    show wpSs T_13 _ _ [some (.loc l), some (.loc (b + s * k))] H _ _ _
    rw [wps_cons, wps_ite, wp_cmp, wp_bf, wp_cons, wp_var, getV_of rfl, wp_nil, wv_len_loc hr, wp_bf, wp_cons, wp_sub, wp_var, getV_of rfl, wp_int, ws_zero G.top (G.item g1), wp_nil, wv_len_loc (G.row 0 _ h0), go_ne, asBool_bool, brB_not]
    by_cases c : (w.length : Int) = (g[0].length : Int)
    · rw [brB_pos c]
      refine (hJ _ _ _).mpr ⟨rfl, ⟨_, rfl⟩, fun j w' hj hw w0 hw0 => ?_⟩
      by_cases c' : j < k
      · exact h' j w' c' hw w0 hw0
      · have : j = k := by omega
        rw [this, hg] at hw
        cases hw
        rw [h0] at hw0
        cases hw0
        omega
    · rw [brB_neg c]; exact ⟨rfl, rfl⟩
  intro Γ K h
  obtain ⟨rfl, ⟨a', rfl⟩, even⟩ := (hJ _ _ _).mp h
  rw [List.length_map, List.length_range] at even
  refine bad fun w hw => ?_
  obtain ⟨j, hj⟩ := List.getElem?_of_mem hw
  have lt := (List.getElem?_eq_some_iff.mp hj).1
  exact ⟨short j w lt hj, even j w lt hj⟩
theorem wn_bad (G : GAt H l b s g) (g1 : 1 ≤ g.length) (gw : ∀ w ∈ g, 1 ≤ w.length) (bad : ¬ ∀ w ∈ g, w.length ≤ 30 ∧ ∀ w0, g[0]? = some w0 → w.length = w0.length) : Wp (newV T_13 (callF T_13 (d + 3)) 7 [.loc l]) H (fun _ _ => False) (fun c _ => c = 1) := by
  show Wp ((M.alloc (.inst 7 [])).bnd fun o => (callF T_13 (d + 3) 16 [o, .loc l]).bnd fun r => match r with
    | .none => .ret o
    | _ => .bad) H _ _
  rw [wp_bnd, wp_alloc, wp_bnd]
  have e0 : Ext H (H ++ [HObj.inst 7 []]) := ⟨_, rfl⟩
  refine Wp.mono (Q := fun _ _ => False) (E := fun c _ => c = 1) ?_ (fun _ _ h => h.elim) (fun _ _ h => h)
  rw [wp_call (g := f16_13) rfl rfl]
  unfold f16_13
  show wpSs T_13 _ (.cons _ _) [some (.loc H.length), some (.loc l), none, none] _ _ _ _
  rw [wps_cons, wps_expr, wp_callE, wp_cons, wp_var, getV_of rfl, wp_nil]
  exact (l13_rowsBad (G.ext e0) g1 gw bad).mono (fun _ _ h => h.elim) (fun _ _ h => h)
theorem LandAt.sink {o r c lg b s ls : Nat} {g : List (List Val)} {es es' : List (Key × Val)} (L : LandAt H o r c lg b s ls g es) : LandAt (H.set ls (.dict es')) o r c lg b s ls g es' := by
  obtain ⟨fs, h0, h⟩ := L.inst
  have hs := L.sinks
  exact ⟨⟨fs, get_other _ (fun q => by rw [q, h0] at hs; exact nomatch hs) h0, h⟩, L.grid.other _ (fun q => by have := L.grid.top; rw [← q, hs] at this; exact nomatch this) (fun i hi q => by have := L.grid.row i _ (List.getElem?_eq_getElem hi); rw [← q, hs] at this; exact nomatch this), get_set _ hs⟩
theorem dput_in (es : List (Key × Val)) (k : Key) (v : Val) (k' : Key) : inD (dput es k v) (valOf k') = true ↔ (inD es (valOf k') = true ∨ k' = k) := by
  show (dget (dput es k v) k').isSome = true ↔ ((dget es k').isSome = true ∨ k' = k)
  rw [dget_put]
  by_cases e : k' = k
  · rw [if_pos e]; exact ⟨fun _ => .inr e, fun _ => rfl⟩
  · rw [if_neg e]; exact ⟨fun h => .inl h, fun h => h.resolve_right e⟩
end
theorem bad_word {t : Str} {ws : List Str} {w : Str} (h1 : ws ∈ W13 t) (h2 : w ∈ ws) (h : valW w = none) : ¬ GoodT t := fun g => by
  have := g ws h1
  unfold badRow at this
  rw [List.any_eq_true.mpr ⟨w, h2, by rw [h]; rfl⟩] at this
  exact nomatch this
theorem good_word {t : Str} (g : GoodT t) {ws : List Str} {w : Str} (h1 : ws ∈ W13 t) (h2 : w ∈ ws) : ∃ v, valW w = some v := by
  cases h : valW w with
  | none => exact absurd g (bad_word h1 h2 h)
  | some v => exact ⟨v, rfl⟩
theorem good_shape {t : Str} (g : GoodT t) {ws : List Str} (h1 : ws ∈ W13 t) : ws.length = ((W13 t).headD []).length ∧ ws.length ≤ 30 ∧ (W13 t).length ≤ 30 := by
  have := g ws h1
  unfold badRow at this
  rw [Bool.or_eq_false_iff, Bool.or_eq_false_iff, Bool.or_eq_false_iff] at this
  obtain ⟨_, h2, h3, h4⟩ := this
  have h3 := of_decide_eq_false h3
  have h4 := of_decide_eq_false h4
  rw [Bool.not_eq_false'] at h2
  have h2 := of_decide_eq_true h2
  exact ⟨h2, by omega, by omega⟩
theorem good_of {t : Str} (h1 : ∀ ws ∈ W13 t, ∀ w ∈ ws, (valW w).isSome = true) (h2 : (W13 t).length ≤ 30) (h3 : ∀ ws ∈ W13 t, ws.length ≤ 30 ∧ ws.length = ((W13 t).headD []).length) : GoodT t := fun ws hw => by
  unfold badRow
  have a : (ws.any fun w => (valW w).isNone) = false := by
    rw [List.any_eq_false]
    intro w hw'
    have := h1 ws hw w hw'
    cases h : valW w with
    | none => rw [h] at this; exact nomatch this
    | some v => exact Bool.false_ne_true
  rw [a, decide_eq_true (h3 ws hw).2, decide_eq_false (show ¬ 30 < ws.length by have := (h3 ws hw).1; omega), decide_eq_false (show ¬ 30 < (W13 t).length by omega)]
  rfl
noncomputable def R13 (t : Str) : Nat := (W13 t).length
noncomputable def C13 (t : Str) : Nat := ((W13 t).headD []).length
theorem good_sides {t : Str} (ht : Txt13 t) (g : GoodT t) : OkS (R13 t) (C13 t) := by
  have wl : (W13 t).length = (linesT t).length := List.length_map ..
  have ll := lines_len ht
  have lt0 : 0 < (W13 t).length := by omega
  have m0 := List.getElem_mem lt0
  have h0 : (W13 t)[0]? = some (W13 t)[0] := List.getElem?_eq_getElem lt0
  have s := good_shape g m0
  have w := W13_len ht m0
  have e : ((W13 t).headD []).length = (W13 t)[0].length := by rw [headD_get h0]
  unfold OkS R13 C13
  omega
theorem good_grid {t : Str} (g : GoodT t) : OkG (grid13 t) (R13 t) (C13 t) := by
  refine ⟨List.length_map .., fun i w hw => ?_⟩
  unfold grid13 at hw
  rw [List.getElem?_map] at hw
  obtain ⟨ws, e, rfl⟩ := Option.map_eq_some_iff.mp hw
  have m := List.mem_of_getElem? e
  refine ⟨by rw [List.length_map]; exact (good_shape g m).1, fun v hv => ?_⟩
  obtain ⟨w, hw, rfl⟩ := List.mem_map.mp hv
  obtain ⟨v, hv⟩ := good_word g m hw
  unfold valL
  rw [hv]
  exact val_hv hv
noncomputable def isDr (t : Str) (k : Key) : Bool := drAt ((W13 t).getD k.1.toNat []) k.2.toNat
noncomputable def dkeys (t : Str) : List Key := (keys (R13 t) (C13 t)).filter (isDr t)
theorem dkeys_all {t : Str} (g : GoodT t) : (dkeys t).map valOf = allD (W13 t) (W13 t).length := by
  unfold dkeys allD keys
  rw [List.filter_flatMap, List.map_flatMap]
  show List.flatMap _ (List.range (W13 t).length) = List.flatMap _ (List.range (W13 t).length)
  have go : ∀ i ∈ List.range (W13 t).length, List.map valOf (List.filter (isDr t) (List.map (fun (j : Nat) => ((i : Int), (j : Int))) (List.range (C13 t)))) = rowD i ((W13 t).getD i []) ((W13 t).getD i []).length := by
    intro i hi
    have lt := List.mem_range.mp hi
    have e : (W13 t)[i]? = some (W13 t)[i] := List.getElem?_eq_getElem lt
    have eD : (W13 t).getD i [] = (W13 t)[i] := by rw [List.getD_eq_getElem?_getD, e]; rfl
    have sh := (good_shape g (List.getElem_mem lt)).1
    rw [List.filter_map, List.map_map, eD]
    unfold rowD
    rw [show C13 t = (W13 t)[i].length from sh.symm]
    have pe : (isDr t ∘ fun (j : Nat) => ((i : Int), (j : Int))) = drAt (W13 t)[i] := by
      funext j
      show drAt ((W13 t).getD ((i : Int)).toNat []) ((j : Int)).toNat = _
      rw [Int.toNat_natCast, Int.toNat_natCast, eD]
    rw [pe]
    rfl
  rw [List.flatMap_def, List.flatMap_def]
  exact congrArg List.flatten (List.map_congr_left go)
end Mine.Pure
-- part LT8
namespace Mine.Pure
open PySem PySem.Builtin PySem.Builtin.Str
section
variable {H : Hp} {d : Nat} {QS : Env' → Hp → Prop} {R : Val → Hp → Prop} {ES : Nat → Env' → Hp → Prop}
theorem l13_readRow {K : Hp} {t ln : Str} {i : Nat} {x0 x7 x8 x9 x10 : Option Val} (ht : Txt13 t) (hi : (linesT t)[i]? = some ln) (hE : ¬ GoodT t → ∀ Γ K, ES 1 Γ K)
    (I0 : RI 0 H K t i (allD (W13 t) i)) (hK : K.length = H.length + 4 + 2 * i) (hc : K[H.length + 3 + 2 * i]? = some (.list []))
    (q : ∀ K' a b, RI 0 H K' t i (allD (W13 t) (i + 1)) → K'.length = H.length + 5 + 2 * i → K'[H.length + 3 + 2 * i]? = some (.list ((wordsT ln).map valL)) → (∀ w ∈ wordsT ln, (valW w).isSome = true) → QS [x0, some (.loc H.length), some (.loc (H.length + 1)), some (.loc (H.length + 2)), some (.int (i : Int)), some (.str ln), some (.loc (H.length + 3 + 2 * i)), a, b, x9, x10] K') :
    wpS T_13 (callF T_13 (d + 1)) (.eachEnum 7 8 (.bm (.var 5) .split (.cons (.str " ") .nil)) (.cons (.ite (.cmp .eq (.var 8) (.str "#")) (.cons (.expr (.bm (.var 6) .append (.cons .none .nil))) .nil) (.cons (.ite (.cmp .eq (.slice (.var 8) (.some (.neg (.int 1))) .none) (.str "*")) (.cons (.expr (.bm (.var 6) .append (.cons (.call 5 (.cons (.slice (.var 8) .none (.some (.neg (.int 1)))) .nil)) .nil))) (.cons (.expr (.bm (.var 2) .append (.cons (.tup (.cons (.var 4) (.cons (.var 7) .nil))) .nil))) .nil)) (.cons (.expr (.bm (.var 6) .append (.cons (.call 5 (.cons (.var 8) .nil)) .nil))) .nil)) .nil)) .nil))
      [x0, some (.loc H.length), some (.loc (H.length + 1)), some (.loc (H.length + 2)), some (.int (i : Int)), some (.str ln), some (.loc (H.length + 3 + 2 * i)), x7, x8, x9, x10] K QS R ES := by
  have mem : ln ∈ linesT t := List.mem_of_getElem? hi
  have hln := ht.line mem
  have wl2 := words_len hln
  have hW := W13_get hi
  have mW := List.mem_of_getElem? hW
  have iw : i < (W13 t).length := (List.getElem?_eq_some_iff.mp hW).1
  have sm := all_small ht (show i ≤ (W13 t).length by omega)
  obtain ⟨I, hI⟩ := hide3 (fun (k : Nat) (Γ : Env') (K' : Hp) => RI 0 H K' t i (allD (W13 t) i ++ rowD i (wordsT ln) k) ∧ K'.length = H.length + 5 + 2 * i ∧ K'[H.length + 4 + 2 * i]? = some (.list ((wordsT ln).map .str)) ∧ K'[H.length + 3 + 2 * i]? = some (.list (((wordsT ln).take k).map valL)) ∧ (∀ w ∈ (wordsT ln).take k, (valW w).isSome = true) ∧ ∃ a b, Γ = [x0, some (.loc H.length), some (.loc (H.length + 1)), some (.loc (H.length + 2)), some (.int (i : Int)), some (.str ln), some (.loc (H.length + 3 + 2 * i)), a, b, x9, x10])
  refine wps_enumL (l := H.length + 4 + 2 * i) (K0 := K ++ [.list ((wordsT ln).map .str)]) I ?_ ((hI _ _ _).mpr ⟨?_, ?_, ?_, Ext.get ⟨_, rfl⟩ hc, (fun w h => nomatch h), _, _, rfl⟩) (fun k Γ K h => ((hI _ _ _).mp h).2.2.1) ?_ ?_
  · rw [wp_splitE (x := ln) rfl sp_len hln.len, hK]; exact ⟨rfl, rfl⟩
  · rw [show rowD i (wordsT ln) 0 = [] from rfl, List.append_nil]; exact I0.ext' ⟨_, rfl⟩
  · rw [List.length_append, hK]; show _ + 1 = _; omega
  · rw [← hK]; exact get_new _ _
  · clear q
    intro k x Γ K1 hx h
    obtain ⟨R1, l1, w1, c1, g1, a, b, rfl⟩ := (hI _ _ _).mp h
    obtain ⟨w, hw, rfl⟩ := str_get hx
    have mw := List.mem_of_getElem? hw
    have hwt := hln.word mw
    have kl := (List.getElem?_eq_some_iff.mp hw).1
    have tk : ((wordsT ln).take k).length < lid := by rw [List.length_take]; show _ < 16777216; omega
    show wpSs T_13 _ _ [x0, some (.loc H.length), some (.loc (H.length + 1)), some (.loc (H.length + 2)), some (.int (i : Int)), some (.str ln), some (.loc (H.length + 3 + 2 * i)), some (.int (k : Int)), some (.str w), x9, x10] K1 _ _ _
    -- one value more
    have R2 : ∀ v, RI 0 H (K1.set (H.length + 3 + 2 * i) (.list (((wordsT ln).take k).map valL ++ [v]))) t i (allD (W13 t) i ++ rowD i (wordsT ln) k) := fun v => R1.set (by omega) _
    have tl : (((wordsT ln).take k).map valL).length < lid := by rw [List.length_map]; exact tk
    have nx : ∀ v K2, valW w = some v → RI 0 H K2 t i (allD (W13 t) i ++ rowD i (wordsT ln) (k + 1)) → K2.length = H.length + 5 + 2 * i → K2[H.length + 4 + 2 * i]? = some (.list ((wordsT ln).map .str)) → K2[H.length + 3 + 2 * i]? = some (.list (((wordsT ln).take k).map valL ++ [v])) → I (k + 1) [x0, some (.loc H.length), some (.loc (H.length + 1)), some (.loc (H.length + 2)), some (.int (i : Int)), some (.str ln), some (.loc (H.length + 3 + 2 * i)), some (.int (k : Int)), some (.str w), x9, x10] K2 := by
      intro v K2 hv R3 l3 w3 c3
      have vl : valL w = v := by unfold valL; rw [hv]; rfl
      refine (hI _ _ _).mpr ⟨R3, l3, w3, ?_, fun w' hw' => ?_, _, _, rfl⟩
      · rw [c3, take_snoc hw, List.map_append, ← vl]; rfl
      · rcases (mem_take_succ hw).mp hw' with h | h
        · exact g1 w' h
        · rw [h, hv]; rfl
    have one : ∀ v, valW w = some v → drW w = false → I (k + 1) [x0, some (.loc H.length), some (.loc (H.length + 1)), some (.loc (H.length + 2)), some (.int (i : Int)), some (.str ln), some (.loc (H.length + 3 + 2 * i)), some (.int (k : Int)), some (.str w), x9, x10] (K1.set (H.length + 3 + 2 * i) (.list (((wordsT ln).take k).map valL ++ [v]))) := by
      intro v hv hd
      refine nx v _ hv ?_ ?_ (get_other _ (by omega) w1) (get_set _ c1)
      · rw [rowD_no ((drAt_of hw).trans hd)]; exact R2 v
      · rw [List.length_set]; exact l1
    rw [wps_cons, wps_ite, wp_cmp, wp_var, getV_of rfl, wp_str, go_eqS hwt.ok ok_stone, asBool_bool]
    refine brB_cases (fun z => ?_) fun z => ?_
    · have hv : valW w = some .none := by unfold valW; rw [z]; rfl
      rw [wps_cons, wps_expr]
      refine wp_appendE rfl c1 ?_
      rw [wp_none]
      exact ⟨_, c1, tl, one .none hv (by rw [val_star hv, z]; rfl)⟩
    have ev : valW w = (hOf (cutW w)).map .int := by unfold valW; rw [z]; rfl
    have bad : hOf (cutW w) = none → ∀ Γ K, ES 1 Γ K := fun e => hE (bad_word mW mw (by rw [ev, e]; rfl))
    have hcl : (cutW w).length ≤ lid := Nat.le_trans (cut_le w) (Nat.le_trans hwt.len (by show 3300 ≤ 16777216; omega))
    rw [wps_cons, wps_ite, wp_sliceStar rfl hwt.ok, asBool_bool]
    refine brB_cases (fun s => ?_) fun s => ?_
    · have cw : cutW w = Txt.slice w none (some (-1)) := by unfold cutW; rw [s]; rfl
      rw [wps_cons, wps_expr]
      refine wp_appendE rfl c1 ?_
      rw [wp_callE, wp_cons, wp_cutW rfl, wp_nil, ← cw]
      refine (l13_hof (ok_cut hwt.ok) hcl).mono ?_ ?_
      · intro v K2 zz
        obtain ⟨rfl, n, hn, rfl⟩ := zz
        have hv : valW w = some (.int n) := by rw [ev, hn]; rfl
        have hd : drW w = true := by rw [val_star hv, z, s]; rfl
        refine ⟨_, c1, tl, ?_⟩
        rw [wps_cons, wps_expr]
        refine wp_appendE rfl (R2 (.int n)).dr ?_
        rw [wp_tup, wp_cons, wp_var, getV_of rfl, wp_cons, wp_var, getV_of rfl, wp_nil]
        refine ⟨_, (R2 (.int n)).dr, ?_, ?_⟩
        · rw [List.length_append]
          have := rowD_len i (wordsT ln) k
          show _ < 16777216
          omega
        · refine nx (.int n) _ hv ?_ ?_ (get_other _ (by omega) (get_other _ (by omega) w1)) (get_other _ (by omega) (get_set _ c1))
          · rw [rowD_yes ((drAt_of hw).trans hd), ← List.append_assoc]
            exact (R2 (.int n)).more _
          · rw [List.length_set, List.length_set]; exact l1
      · rintro c K2 ⟨rfl, e⟩
        exact bad e _ _
    · have cw : cutW w = w := by unfold cutW; rw [s]; rfl
      rw [wps_cons, wps_expr]
      refine wp_appendE rfl c1 ?_
      rw [wp_callE, wp_cons, wp_var, getV_of (v := .str w) rfl, wp_nil, ← cw]
      refine (l13_hof (ok_cut hwt.ok) hcl).mono ?_ ?_
      · intro v K2 zz
        obtain ⟨rfl, n, hn, rfl⟩ := zz
        have hv : valW w = some (.int n) := by rw [ev, hn]; rfl
        have hd : drW w = false := by rw [val_star hv, s, Bool.and_false]
        rw [cw]
        exact ⟨_, c1, tl, one (.int n) hv hd⟩
      · rintro c K2 ⟨rfl, e⟩
        exact bad e _ _
  · intro Γ K1 h
    obtain ⟨R1, l1, w1, c1, g1, a, b, rfl⟩ := (hI _ _ _).mp h
    rw [List.length_map] at R1 c1 g1
    rw [List.take_length] at c1 g1
    refine q K1 a b ?_ l1 c1 g1
    rw [allD_succ hW]; exact R1
end
end Mine.Pure
-- part LT9
namespace Mine.Pure
open PySem PySem.Builtin PySem.Builtin.Str
section
variable {H : Hp} {d : Nat} {QS : Env' → Hp → Prop} {R : Val → Hp → Prop} {ES : Nat → Env' → Hp → Prop}
theorem l13_readRows {t : Str} {x0 x4 x5 x6 x7 x8 x9 x10 : Option Val} {K : Hp} (ht : Txt13 t) (hE : ¬ GoodT t → ∀ Γ K, ES 1 Γ K) (I0 : RI 0 H K t 0 []) (hK : K.length = H.length + 3)
    (q : ∀ K' a b c e f, RI 0 H K' t (W13 t).length (allD (W13 t) (W13 t).length) → (∀ ws ∈ W13 t, ∀ w ∈ ws, (valW w).isSome = true) → QS [x0, some (.loc H.length), some (.loc (H.length + 1)), some (.loc (H.length + 2)), a, b, c, e, f, x9, x10] K') :
    wpS T_13 (callF T_13 (d + 1)) (.eachEnum 4 5 (.var 3) (.cons (.assign 6 (.list .nil)) (.cons (.eachEnum 7 8 (.bm (.var 5) .split (.cons (.str " ") .nil)) (.cons (.ite (.cmp .eq (.var 8) (.str "#")) (.cons (.expr (.bm (.var 6) .append (.cons .none .nil))) .nil) (.cons (.ite (.cmp .eq (.slice (.var 8) (.some (.neg (.int 1))) .none) (.str "*")) (.cons (.expr (.bm (.var 6) .append (.cons (.call 5 (.cons (.slice (.var 8) .none (.some (.neg (.int 1)))) .nil)) .nil))) (.cons (.expr (.bm (.var 2) .append (.cons (.tup (.cons (.var 4) (.cons (.var 7) .nil))) .nil))) .nil)) (.cons (.expr (.bm (.var 6) .append (.cons (.call 5 (.cons (.var 8) .nil)) .nil))) .nil)) .nil)) .nil)) (.cons (.expr (.bm (.var 1) .append (.cons (.var 6) .nil))) .nil))))
      [x0, some (.loc H.length), some (.loc (H.length + 1)), some (.loc (H.length + 2)), x4, x5, x6, x7, x8, x9, x10] K QS R ES := by
  have wl : (W13 t).length = (linesT t).length := List.length_map ..
  have ll := lines_len ht
  obtain ⟨I, hI⟩ := hide3 (fun (k : Nat) (Γ : Env') (K' : Hp) => RI 0 H K' t k (allD (W13 t) k) ∧ K'.length = H.length + 3 + 2 * k ∧ (∀ ws ∈ (W13 t).take k, ∀ w ∈ ws, (valW w).isSome = true) ∧ ∃ a b c e f, Γ = [x0, some (.loc H.length), some (.loc (H.length + 1)), some (.loc (H.length + 2)), a, b, c, e, f, x9, x10])
  refine wps_enumL (l := H.length + 2) (K0 := K) I ?_ ((hI _ _ _).mpr ⟨I0, hK, (fun w h => nomatch h), _, _, _, _, _, rfl⟩) (fun k Γ K h => ((hI _ _ _).mp h).1.ln) ?_ ?_
  · rw [wp_var, getV_of rfl]; exact ⟨rfl, rfl⟩
  · clear q
    intro k x Γ K1 hx h
    obtain ⟨R1, l1, g1, a, b, c, e, f, rfl⟩ := (hI _ _ _).mp h
    obtain ⟨ln, hln, rfl⟩ := str_get hx
    have lt := (List.getElem?_eq_some_iff.mp hln).1
    have hW := W13_get hln
    rw [wps_cons, wps_assign, wp_list, wp_nil, l1]
    show wpSs T_13 (callF T_13 (d + 1)) _ [x0, some (.loc H.length), some (.loc (H.length + 1)), some (.loc (H.length + 2)), some (.int (k : Int)), some (.str ln), some (.loc (H.length + 3 + 2 * k)), e, f, x9, x10] (K1 ++ [.list []]) _ _ _
    rw [wps_cons]
    refine l13_readRow ht hln hE (R1.ext' ⟨_, rfl⟩) ?_ ?_ fun K2 a b R2 l2 c2 g2 => ?_
    · rw [List.length_append, l1]; show _ + 1 = _; omega
    · rw [← l1]; exact get_new _ _
    rw [wps_cons, wps_expr]
    refine wp_appendE rfl R2.top ?_
    rw [wp_var, getV_of rfl]
    refine ⟨_, R2.top, ?_, (hI _ _ _).mpr ⟨R2.next hW c2, ?_, fun ws hws => ?_, _, _, _, _, _, rfl⟩⟩
    · rw [List.length_map, List.length_range]; show k < 16777216; omega
    · rw [List.length_set, l2]; omega
    · rcases (mem_take_succ hW).mp hws with h | h
      · exact g1 ws h
      · rw [h]; exact g2
  · intro Γ K1 h
    obtain ⟨R1, l1, g1, a, b, c, e, f, rfl⟩ := (hI _ _ _).mp h
    rw [List.length_map, ← wl] at R1 g1
    rw [List.take_length] at g1
    exact q K1 a b c e f R1 g1
theorem l13_openAll {K : Hp} {t : Str} {o lg b ls m : Nat} {x0 x1 x3 x4 x5 x6 x7 x8 x10 : Option Val} (g : GoodT t) (hm : K[m]? = some (.list ((dkeys t).map valOf))) (L : LandAt K o (R13 t) (C13 t) lg b 1 ls (grid13 t) []) (hs : OkS (R13 t) (C13 t)) (eH : Ext H K) (hl : H.length ≤ ls)
    (q : ∀ K' es a, Ext H K' → LandAt K' o (R13 t) (C13 t) lg b 1 ls (grid13 t) es → (∀ k, inD es (valOf k) = true ↔ k ∈ dkeys t) → QS [x0, x1, some (.loc m), x3, x4, x5, x6, x7, x8, some (.loc o), a] K') :
    wpS T_13 (callF T_13 (d + 4)) (.each 10 (.var 2) (.cons (.expr (.umeth (.var 9) 3 (.cons (.var 10) .nil))) .nil)) [x0, x1, some (.loc m), x3, x4, x5, x6, x7, x8, some (.loc o), x10] K QS R ES := by
  have hlid : lid = 16777216 := rfl
  unfold OkS at hs
  have dl : (dkeys t).length ≤ 900 := by
    unfold dkeys
    refine Nat.le_trans (List.length_filter_le _ _) ?_
    rw [keys_len]
    exact Nat.mul_le_mul hs.2.1 hs.2.2.2
  obtain ⟨I, hI⟩ := hide3 (fun (n : Nat) (Γ : Env') (K' : Hp) => ∃ es a, Γ = [x0, x1, some (.loc m), x3, x4, x5, x6, x7, x8, some (.loc o), a] ∧ Ext H K' ∧ LandAt K' o (R13 t) (C13 t) lg b 1 ls (grid13 t) es ∧ (∀ k, inD es (valOf k) = true ↔ k ∈ (dkeys t).take n) ∧ es.length ≤ n ∧ K'[m]? = some (.list ((dkeys t).map valOf)))
  refine wps_listL I ?_ hm ((hI _ _ _).mpr ⟨[], _, rfl, eH, L, (fun k => ⟨(fun h => nomatch h), (fun h => nomatch h)⟩), Nat.le_refl _, hm⟩) (fun k Γ K h => by obtain ⟨es, a, h⟩ := (hI _ _ _).mp h; exact h.2.2.2.2.2) ?_ ?_
  · rw [wp_var, getV_of rfl]; exact ⟨rfl, rfl⟩
  · clear q
    intro n z Γ K1 hz h
    obtain ⟨es, a, rfl, eK, LK, hes, el, hm1⟩ := (hI _ _ _).mp h
    obtain ⟨k, hk, rfl⟩ := map_get hz
    have ln := (List.getElem?_eq_some_iff.mp hk).1
    obtain ⟨mk, dk⟩ := List.mem_filter.mp (List.mem_of_getElem? hk)
    obtain ⟨i, j, rfl, hi, hj⟩ := inR_nat (mem_keys.mp mk)
    have hW : (W13 t)[i]? = some (W13 t)[i] := List.getElem?_eq_getElem hi
    have mW := List.mem_of_getElem? hW
    have sh := (good_shape g mW).1
    have jl : j < (W13 t)[i].length := by rw [sh]; exact hj
    have hw : (W13 t)[i][j]? = some (W13 t)[i][j] := List.getElem?_eq_getElem jl
    have dk : drW (W13 t)[i][j] = true := by
      have : drAt ((W13 t).getD ((i : Int)).toNat []) ((j : Int)).toNat = true := dk
      rw [Int.toNat_natCast, Int.toNat_natCast, List.getD_eq_getElem?_getD, hW] at this
      exact (drAt_of hw).symm.trans this
    obtain ⟨v, hv⟩ := good_word g mW (List.mem_of_getElem? hw)
    obtain ⟨y, rfl⟩ := star_int hv dk
    have hg : (grid13 t)[i]? = some ((W13 t)[i].map valL) := by unfold grid13; rw [List.getElem?_map, hW]; rfl
    have hx : ((W13 t)[i].map valL)[j]? = some (.int y) := by rw [List.getElem?_map, hw]; show some (valL _) = _; unfold valL; rw [hv]; rfl
    obtain ⟨fs, f0, _⟩ := LK.inst
    show wpSs T_13 _ _ [x0, x1, some (.loc m), x3, x4, x5, x6, x7, x8, some (.loc o), some (.tup [.int (i : Int), .int (j : Int)])] K1 _ _ _
    rw [wps_cons, wps_expr, wp_umeth, wp_var, getV_of rfl, wu_meth3 f0 (show T_13.meth 7 3 = some 19 from rfl), wp_cons, wp_var, getV_of rfl, wp_nil]
    refine (l13_opened (d := d) hi hj LK hg hx (by omega)).then ?_
    rintro v K2 ⟨_, rfl⟩
    refine (hI _ _ _).mpr ⟨_, _, rfl, eK.set hl _, LK.sink, fun k => ?_, Nat.le_trans (dput_len _ _ _) (Nat.succ_le_succ el), ?_⟩
    · rw [dput_in, hes, mem_take_succ hk]
    · exact get_other _ (fun q => by have := LK.sinks; rw [q, hm1] at this; exact nomatch this) hm1
  · intro Γ K1 h
    obtain ⟨es, a, rfl, eK, LK, hes, el, hm1⟩ := (hI _ _ _).mp h
    rw [List.length_map, List.take_length] at hes
    exact q K1 es a eK LK hes
theorem l13_read {t : Str} (ht : Txt13 t) : Wp (callF T_13 (d + 5) 6 [.str t]) H (fun v K => GoodT t ∧ Ext H K ∧ ∃ o lg b ls es, v = .loc o ∧ LandAt K o (R13 t) (C13 t) lg b 1 ls (grid13 t) es ∧ ∀ k, inD es (valOf k) = true ↔ k ∈ dkeys t) (fun c _ => c = 1 ∧ ¬ GoodT t) := by
  have wl : (W13 t).length = (linesT t).length := List.length_map ..
  have ll := lines_len ht
  rw [wp_call (g := f6_13) rfl rfl]
  unfold f6_13
  show wpSs T_13 _ (.cons _ _) [some (.str t), none, none, none, none, none, none, none, none, none, none] H _ _ _
  rw [wps_cons, wps_ite, wp_not, wp_isinst, wp_var, getV_zero, wi_kd (.str t) .str .str rfl (by intro c h; cases h), asBool_bool, asBool_bool]
  show brB false _ _
  rw [brB_false, wps_nil, wps_cons, wps_assign, wp_list, wp_nil, wps_cons, wps_assign, wp_list, wp_nil, wps_cons, wps_assign, wp_splitE (x := t) rfl nl_len ht.len]
  have L2 : (H ++ [HObj.list []] ++ [HObj.list []]).length = H.length + 2 := by simp
  have L1 : (H ++ [HObj.list []]).length = H.length + 1 := by simp
  have e1 : Ext (H ++ [HObj.list []]) (H ++ [.list []] ++ [.list []] ++ [.list ((linesT t).map .str)]) := ⟨[.list [], .list ((linesT t).map .str)], by simp⟩
  have e2 : Ext (H ++ [HObj.list []] ++ [HObj.list []]) (H ++ [.list []] ++ [.list []] ++ [.list ((linesT t).map .str)]) := ⟨_, rfl⟩
  have R0 : RI 0 H (H ++ [.list []] ++ [.list []] ++ [.list ((linesT t).map .str)]) t 0 [] := by
    refine ⟨⟨[.list [], .list [], .list ((linesT t).map .str)], by simp⟩, e1.get (get_new H _), ?_, ?_, fun j ws hj => absurd hj (Nat.not_lt_zero _)⟩
    · have := e2.get (get_new (H ++ [HObj.list []]) (.list []))
      rw [L1] at this
      exact this
    · have := get_new (H ++ [HObj.list []] ++ [HObj.list []]) (.list ((linesT t).map Val.str))
      rw [L2] at this
      exact this
  rw [L1, L2]
  show wpSs T_13 (callF T_13 (d + 4)) _ [some (.str t), some (.loc H.length), some (.loc (H.length + 1)), some (.loc (H.length + 2)), none, none, none, none, none, none, none] (H ++ [.list []] ++ [.list []] ++ [.list ((linesT t).map .str)]) _ _ _
  rw [wps_cons, wps_ite, wp_cmp, wp_bf, wp_cons, wp_var, getV_of rfl, wp_nil, wv_len_loc R0.ln, wp_glob, globs_0, getO_some, go_gt, asBool_bool, List.length_map]
  by_cases c : (30 : Int) < ((linesT t).length : Int)
  · rw [brB_pos c]
    refine ⟨rfl, rfl, fun g => ?_⟩
    have lt0 : 0 < (W13 t).length := by omega
    have := (good_shape g (List.getElem_mem lt0)).2.2
    omega
  rw [brB_neg c, wps_nil, wps_cons]
  refine l13_readRows (d := d + 3) ht (fun g Γ K => ⟨rfl, g⟩) R0 (by simp) fun K a b c' e f R1 g1 => ?_
  rw [wps_cons, wps_assign, wp_new, show T_13.meth 7 0 = some 16 from rfl, getO_some, wp_cons, wp_var, getV_of rfl, wp_nil]
  by_cases g : GoodT t
  · have hs := good_sides ht g
    refine (wn_land (d := d + 1) hs (good_grid g) R1.grid).then ?_
    intro v K2 zz
    obtain ⟨rfl, eK, lg, b', ls, LK, h1, h2, h3⟩ := zz
    show wpSs T_13 (callF T_13 (d + 4)) _ [some (.str t), some (.loc H.length), some (.loc (H.length + 1)), some (.loc (H.length + 2)), a, b, c', e, f, some (.loc K.length), none] K2 _ _ _
    have hm := eK.get R1.dr
    rw [← dkeys_all g] at hm
    have le := R1.ext.len
    rw [wps_cons]
    refine l13_openAll (H := H) g hm LK hs (R1.ext.trans eK) (by omega) fun K3 es a' e3 L3 h3 => ?_
    rw [wps_cons, wps_ret, wp_oSome, wp_var, getV_of rfl]
    exact ⟨g, e3, _, _, _, _, _, rfl, L3, h3⟩
  · refine (wn_bad (d := d + 1) R1.grid ?_ ?_ ?_).mono (fun _ _ h => h.elim) (fun c _ h => ⟨h, g⟩)
    · show 1 ≤ ((W13 t).map _).length
      rw [List.length_map]; omega
    · intro w hw
      obtain ⟨ws, hws, rfl⟩ := List.mem_map.mp hw
      rw [List.length_map]
      exact (W13_len ht hws).1
    · intro h
      have lt0 : 0 < (W13 t).length := by omega
      have h0 : (W13 t)[0]? = some (W13 t)[0] := List.getElem?_eq_getElem lt0
      have hg0 : (grid13 t)[0]? = some ((W13 t)[0].map valL) := by unfold grid13; rw [List.getElem?_map, h0]; rfl
      refine g (good_of g1 (by omega) fun ws hws => ?_)
      have := h (ws.map valL) (List.mem_map.mpr ⟨ws, hws, rfl⟩)
      rw [List.length_map] at this
      have h2 := this.2 _ hg0
      rw [List.length_map] at h2
      rw [headD_get h0]
      exact ⟨this.1, h2⟩
end
end Mine.Pure
-- part LTX
namespace Mine.Pure
open PySem PySem.Builtin PySem.Builtin.Str
section
variable {H : Hp} {d : Nat}
theorem l13_word1 : callF T_13 (d + 1) 10 [.exc 1] H = .ok (.str "land") H := by kernel_rfl
theorem ok_land : Ok ("land" : Str) := (ok_iff _).mp (by decide +kernel)
theorem wp_land {Γ : Env'} {i : Nat} {Q : Val → Hp → Prop} {E : Nat → Hp → Prop} (hi : Γ[i]? = some (some (.exc 1))) (q : Q (.bool true) H) : wpE T_13 (callF T_13 (d + 1)) (.cmp .eq (.call 10 (.cons (.var i) .nil)) (.str "land")) Γ H Q E := by
  rw [wp_cmp, wp_callE, wp_cons, wp_var, getV_of hi, wp_nil]
  refine Wp.of_eq l13_word1 ?_
  rw [wp_str, go_eqS ok_land ok_land, beq_self_eq_true]
  exact q
theorem l13_refused {v : Val} {P : Hp → Prop} (h : Wp (callF T_13 (d + 1) 6 [v]) H (fun _ _ => False) (fun c K => c = 1 ∧ P K)) : Wp (callF T_13 (d + 2) 11 [v]) H (fun w K => w = .bool true ∧ P K) NoE := by
  rw [wp_call (g := f11_13) rfl rfl]
  unfold f11_13
  show wpSs T_13 _ (.cons _ _) [some v, none] H _ _ _
  rw [wps_cons]
  refine wps_try ?_
  rw [wps_cons, wps_expr, wp_callE, wp_cons, wp_var, getV_zero, wp_nil]
  refine h.mono (fun _ _ h => h.elim) ?_
  rintro c K ⟨rfl, p⟩
  refine wps_hit (by decide +kernel) (by decide +kernel) ?_
  rw [wps_cons, wps_ret, wp_oSome]
  refine wp_land rfl ?_
  exact ⟨rfl, p⟩
theorem l13_odd {v : Val} {k : Kd} (hk : kdOf H v = some k) (hs : isKd .str k = false) : Wp (callF T_13 (d + 1) 6 [v]) H (fun _ _ => False) (fun c K => c = 1 ∧ H = K) := by
  rw [wp_call (g := f6_13) rfl rfl]
  unfold f6_13
  show wpSs T_13 _ (.cons _ _) [some v, none, none, none, none, none, none, none, none, none, none] H _ _ _
  rw [wps_cons, wps_ite, wp_not, wp_isinst, wp_var, getV_zero, wi_kd v .str k hk (by intro c h; cases h), asBool_bool, hs, asBool_bool]
  exact ⟨rfl, rfl, rfl⟩
theorem dr_filter {t : Str} {es : List (Key × Val)} (h : ∀ k, inD es (valOf k) = true ↔ k ∈ dkeys t) : (cells (R13 t) (C13 t)).filter (inD es) = (dkeys t).map valOf := by
  rw [← keys_cells, List.filter_map]
  unfold dkeys
  congr 1
  refine List.filter_congr fun k hk => ?_
  show inD es (valOf k) = isDr t k
  rw [Bool.eq_iff_iff, h k]
  unfold dkeys
  rw [List.mem_filter]
  exact ⟨fun h => h.2, fun h => ⟨hk, h⟩⟩
theorem l13_found {t : Str} (ht : Txt13 t) : Wp (callF T_13 (d + 6) 12 [.str t]) H (fun v K => (GoodT t ∧ Ext H K ∧ ∃ a b m, v = .tup [.loc a, .loc m] ∧ GAt K a b 1 (grid13 t) ∧ K[m]? = some (.list ((dkeys t).map valOf))) ∨ (¬ GoodT t ∧ v = .none)) NoE := by
  rw [wp_call (g := f12_13) rfl rfl]
  unfold f12_13
  show wpSs T_13 _ (.cons _ _) [some (.str t), none, none] H _ _ _
  rw [wps_cons]
  refine wps_try ?_
  rw [wps_cons, wps_assign, wp_callE, wp_cons, wp_var, getV_zero, wp_nil]
  refine (l13_read (d := d) ht).mono ?_ ?_
  · intro v K zz
    obtain ⟨g, e, o, lg, b, ls, es, rfl, L, hes⟩ := zz
    have hs := good_sides ht g
    unfold OkS at hs
    have og := good_grid g
    show wpSs T_13 (callF T_13 (d + 5)) _ [some (.str t), some (.loc o), none] K _ _ _
    obtain ⟨fs, f0, _⟩ := L.inst
    rw [wps_nil, wps_cons, wps_ret, wp_oSome, wp_tup, wp_cons, wp_umeth, wp_var, getV_of rfl, wu_meth3 f0 (show T_13.meth 7 5 = some 21 from rfl), wp_nil]
    refine (l13_heights (d := d + 4) og hs.2.1 L).then ?_
    rintro v K1 ⟨rfl, e1, G1⟩
    rw [wp_cons, wp_umeth, wp_var, getV_of rfl, wu_meth3 (e1.get f0) (show T_13.meth 7 4 = some 20 from rfl), wp_nil]
    refine (l13_drains (d := d + 3) hs.2.1 hs.2.2.2 (L.ext e1)).then ?_
    intro v K2 zz
    obtain ⟨m, rfl, _, e2, hm⟩ := zz
    rw [wp_nil]
    rw [dr_filter hes] at hm
    exact .inl ⟨g, (e.trans e1).trans e2, _, _, m, rfl, G1.ext e2, hm⟩
  · rintro c K ⟨rfl, g⟩
    refine wps_hit (by decide +kernel) (by decide +kernel) ?_
    show wpSs T_13 (callF T_13 (d + 5)) (.cons _ _) [some (.str t), none, some (.exc 1)] K _ _ _
    rw [wps_cons, wps_ite]
    refine wp_land rfl ?_
    exact .inr ⟨g, rfl⟩
theorem all_self : ∀ ds : List PyData, (∀ d ∈ ds, PyData.eqv d d = true) → PyData.eqvAll ds ds = true
  | [], _ => rfl
  | d :: ds, h => by
    show (PyData.eqv d d && PyData.eqvAll ds ds) = true
    rw [h d (.head _), all_self ds fun x hx => h x (.tail _ hx)]; rfl
theorem dataW_self (w : Str) : PyData.eqv (dataW w) (dataW w) = true := by
  unfold dataW
  rcases valL_two w with e | ⟨i, e⟩
  · rw [e]; rfl
  · rw [e]
    show (i == i) = true
    exact beq_self_eq_true i
noncomputable def gridD (t : Str) : List PyData := (W13 t).map fun ws => .list (ws.map dataW)
noncomputable def keyD (k : Key) : PyData := .tuple [.int k.1, .int k.2]
theorem grid_self (t : Str) : PyData.eqvAll (gridD t) (gridD t) = true := all_self _ fun d hd => by
  obtain ⟨ws, _, rfl⟩ := List.mem_map.mp hd
  show PyData.eqvAll (ws.map dataW) (ws.map dataW) = true
  refine all_self _ fun d hd => ?_
  obtain ⟨w, _, rfl⟩ := List.mem_map.mp hd
  exact dataW_self w
theorem keys_self (ks : List Key) : PyData.eqvAll (ks.map keyD) (ks.map keyD) = true := all_self _ fun d hd => by
  obtain ⟨k, _, rfl⟩ := List.mem_map.mp hd
  show ((k.1 == k.1) && ((k.2 == k.2) && true)) = true
  rw [beq_self_eq_true, beq_self_eq_true]; rfl
theorem data_loc {K : Hp} {n l : Nat} {xs : List Val} {ds : List PyData} (h : K[l]? = some (.list xs)) (hd : dats (dataOf K n) xs = some ds) : dataOf K (n + 1) (.loc l) = some (.list ds) := by
  have : dataOf K (n + 1) (.loc l) = (match K[l]? with | some (.list xs) => (dats (dataOf K n) xs).map .list | _ => none) := rfl
  rw [this, h]
  show (dats (dataOf K n) xs).map PyData.list = _
  rw [hd]; rfl
theorem dats_of {f : Val → Option PyData} : ∀ (xs : List Val) (ds : List PyData), xs.length = ds.length → (∀ (i : Nat) x y, xs[i]? = some x → ds[i]? = some y → f x = some y) → dats f xs = some ds
  | [], [], _, _ => rfl
  | x :: xs, y :: ds, e, h => by
    show (match f x, dats f xs with | some d, some ds => some (d :: ds) | _, _ => none) = _
    rw [h 0 x y rfl rfl, dats_of xs ds (Nat.succ.inj e) fun i x y hx hy => h (i + 1) x y hx hy]
theorem data_grid {K : Hp} {t : Str} {l b s : Nat} (G : GAt K l b s (grid13 t)) : dataOf K 5 (.loc l) = some (.list (gridD t)) := by
  have gl : (grid13 t).length = (W13 t).length := List.length_map ..
  refine data_loc G.top (dats_of _ _ ?_ ?_)
  · unfold gridD; rw [List.length_map, List.length_range, List.length_map]; exact gl
  · intro i x y hx hy
    unfold gridD at hy
    rw [List.getElem?_map] at hy
    obtain ⟨ws, hw, rfl⟩ := Option.map_eq_some_iff.mp hy
    have lt : i < (grid13 t).length := by rw [gl]; exact (List.getElem?_eq_some_iff.mp hw).1
    rw [G.item lt] at hx
    cases hx
    refine data_loc (G.row i (ws.map valL) ?_) (dats_row 3 ws)
    unfold grid13; rw [List.getElem?_map, hw]; rfl
theorem data_keys {K : Hp} {m : Nat} {ks : List Key} (h : K[m]? = some (.list (ks.map valOf))) : dataOf K 5 (.loc m) = some (.list (ks.map keyD)) := by
  refine data_loc h (dats_of _ _ (by rw [List.length_map, List.length_map]) ?_)
  intro i x y hx hy
  rw [List.getElem?_map] at hx hy
  obtain ⟨k, hk, rfl⟩ := Option.map_eq_some_iff.mp hx
  rw [hk] at hy
  cases hy
  rfl
theorem eq_found {K : Hp} {t : Str} {a b s m a' b' s' m' : Nat} {ks : List Key} (G : GAt K a b s (grid13 t)) (h : K[m]? = some (.list (ks.map valOf))) (G' : GAt K a' b' s' (grid13 t)) (h' : K[m']? = some (.list (ks.map valOf))) : pyEq K (.tup [.loc a, .loc m]) (.tup [.loc a', .loc m']) = some true := by
  have e : ∀ a b s m, GAt K a b s (grid13 t) → K[m]? = some (.list (ks.map valOf)) → dataOf K deep (.tup [.loc a, .loc m]) = some (.tuple [.list (gridD t), .list (ks.map keyD)]) := by
    intro a b s m G h
    show (dats (dataOf K 5) [.loc a, .loc m]).map PyData.tuple = _
    have : dats (dataOf K 5) [.loc a, .loc m] = some [.list (gridD t), .list (ks.map keyD)] := by
      show (match dataOf K 5 (.loc a), (match dataOf K 5 (.loc m), some [] with | some d, some ds => some (d :: ds) | _, _ => none) with | some d, some ds => some (d :: ds) | _, _ => none) = _
      rw [data_grid G, data_keys h]
    rw [this]; rfl
  unfold pyEq
  rw [e a b s m G h, e a' b' s' m' G' h']
  show some (PyData.eqvAll (gridD t) (gridD t) && (PyData.eqvAll (ks.map keyD) (ks.map keyD) && true)) = some true
  rw [grid_self, keys_self]; rfl
end
end Mine.Pure
-- part LTY
namespace Mine.Pure
open PySem PySem.Builtin PySem.Builtin.Str
noncomputable def Wd (w : Str) : Prop := Ok w ∧ w.length ≤ 12
noncomputable def RowLt (K : Hp) (c L m : Nat) (p : Val) : Prop := ∃ (a : Nat) (ws : List Str), p = .loc a ∧ L < a ∧ a < m ∧ K[a]? = some (.list (ws.map .str)) ∧ ws.length = c ∧ ∀ w ∈ ws, Wd w
theorem RowLt.ext {K K' : Hp} {c L m m' : Nat} {p : Val} (h : RowLt K c L m p) (e : Ext K K') (hm : m ≤ m') : RowLt K' c L m' p := by
  obtain ⟨a, ws, h1, h2, h3, h4, h5⟩ := h
  exact ⟨a, ws, h1, h2, by omega, e.get h4, h5⟩
theorem RowLt.set {K : Hp} {c L m x : Nat} {p : Val} (h : RowLt K c L m p) (hx : x ≤ L ∨ m ≤ x) (o : HObj) : RowLt (K.set x o) c L m p := by
  obtain ⟨a, ws, h1, h2, h3, h4, h5⟩ := h
  exact ⟨a, ws, h1, h2, h3, get_other o (by omega) h4, h5⟩
section
variable {T : Tab} {Φ : Funs} {H : Hp} {d : Nat} {Q : Val → Hp → Prop} {E : Nat → Hp → Prop} {QS : Env' → Hp → Prop} {R : Val → Hp → Prop} {ES : Nat → Env' → Hp → Prop} {Γ : Env'}
theorem l13_cellI (ns : List Int) {i : Int} {k : Nat} (h : i = (k : Int)) : Wp (callF T_13 (d + 1) 7 [.script ns, .int i]) H Q E = Q (.int (cellAt ns k)) H := by
  rw [h]; exact l13_cell ns k
theorem wb_addS {x y : Str} (h : x.length + y.length ≤ lid) : wpBin .add (.str x) (.str y) H Q E = Q (.str (x ++ y)) H := by
  have : binV .add (.str x) (.str y) = M.ret (.str (x ++ y)) := if_pos h
  show Wp (binV .add (.str x) (.str y)) H Q E = _
  rw [this]; rfl
theorem wb_addL {x y : Nat} {xs ys : List Val} (hx : H[x]? = some (.list xs)) (hy : H[y]? = some (.list ys)) (h : xs.length + ys.length ≤ lid) : wpBin .add (.loc x) (.loc y) H Q E = Q (.loc H.length) (H ++ [.list (xs ++ ys)]) := by
  have : binV .add (.loc x) (.loc y) H = .ok (.loc H.length) (H ++ [.list (xs ++ ys)]) := by
    show (match H[x]?, H[y]? with
    | some (.list xs), some (.list ys) => if xs.length + ys.length ≤ lid then M.alloc (.list (xs ++ ys)) H else .bad
    | _, _ => .bad) = _
    rw [hx, hy]
    exact if_pos h
  show Wp (binV .add (.loc x) (.loc y)) H Q E = _
  unfold Wp; rw [this]
theorem ws_words {l : Nat} {ws : List Str} {i : Int} (h : H[l]? = some (.list (ws.map .str))) (h0 : 0 ≤ i) (h1 : i < ws.length) (q : ∀ w ∈ ws, Q (.str w) H) : Wp (subV (.loc l) (.int i)) H Q E := by
  have lt : i.toNat < ws.length := by omega
  have e : (ws.map Val.str)[i.toNat]? = some (.str ws[i.toNat]) := by rw [List.getElem?_map, List.getElem?_eq_getElem lt]; rfl
  exact ws_list h h0 e (q _ (List.getElem_mem lt))
theorem fmod_two (a : Int) {n : Int} (h : 0 < n) : 0 ≤ Int.fmod a n ∧ Int.fmod a n < n := ⟨Int.fmod_nonneg_of_pos a h, Int.fmod_lt_of_pos a h⟩
theorem wd_lit (s : String) (h : s.length ≤ 12) : Wd (Str.ofString s) := ⟨ok_lit s, by rw [PySem.ofString_length]; exact h⟩
theorem small_of {i : Int} (h0 : 0 ≤ i) (h1 : i ≤ 1000000001) : small i = true := by
  unfold small
  rw [decide_eq_true (show -(2 ^ 64) < i by omega), decide_eq_true (show i < 2 ^ 64 by omega)]; rfl
theorem l13_one {ns : List Int} {x1 x2 x4 x6 : Option Val} {A : Nat} {ws : List Str} {cell : Int} (hA : H[A]? = some (.list (ws.map .str))) (hl : ws.length < 1000)
    (q : ∀ w K l, Wd w → Ext (H.set A (.list ((ws ++ [w]).map .str))) K → QS [some (.script ns), x1, x2, some (.loc A), x4, some (.int cell), some (.loc l)] K) :
    wpSs T_13 (callF T_13 (d + 1)) (.cons (.assign 6 (.list (.cons (.str "#") (.cons (.bf .str (.cons (.bin .mod (.bin .fdiv (.var 5) (.int 6)) (.int 1000000001)) .nil)) (.cons (.bin .add (.bf .str (.cons (.bin .mod (.bin .fdiv (.var 5) (.int 6)) (.int 12)) .nil)) (.str "*")) .nil))))) (.cons (.expr (.bm (.var 3) .append (.cons (.sub (.bin .add (.var 6) (.list (.cons (.str "1000000000") (.cons (.str "0") (.cons (.str "0*") .nil))))) (.bin .mod (.var 5) (.int 6))) .nil))) .nil))
      [some (.script ns), x1, x2, some (.loc A), x4, some (.int cell), x6] H QS R ES := by
  have hlid : lid = 16777216 := rfl
  have m1 := fmod_two (Int.fdiv cell 6) (show (0 : Int) < 1000000001 by decide)
  have m2 := fmod_two (Int.fdiv cell 6) (show (0 : Int) < 12 by decide)
  have m3 := fmod_two cell (show (0 : Int) < 6 by decide)
  have nl1 : (numText (Int.fmod (Int.fdiv cell 6) 1000000001)).length ≤ 11 := num_len (by omega)
  have nl2 : (numText (Int.fmod (Int.fdiv cell 6) 12)).length ≤ 11 := num_len (by omega)
  have sl : ("*" : Str).length = 1 := by decide +kernel
  have cA := lt_of_get hA
  rw [wps_cons, wps_assign, wp_list, wp_cons, wp_str, wp_cons, wp_bf, wp_cons, wp_bin, wp_bin, wp_var, getV_of (v := .int cell) rfl, wp_int, wv_fdiv]
  refine ⟨by decide, ?_⟩
  rw [wp_int, wv_mod]
  refine ⟨by decide, ?_⟩
  rw [wp_nil, wv_strI (small_of m1.1 (by omega)), wp_cons, wp_bin, wp_bf, wp_cons, wp_bin, wp_bin, wp_var, getV_of (v := .int cell) rfl, wp_int, wv_fdiv]
  refine ⟨by decide, ?_⟩
  rw [wp_int, wv_mod]
  refine ⟨by decide, ?_⟩
  rw [wp_nil, wv_strI (small_of m2.1 (by omega)), wp_str, wb_addS (by rw [sl]; omega), wp_nil]
  generalize hE1 : [("#" : Str), numText (Int.fmod (Int.fdiv cell 6) 1000000001), numText (Int.fmod (Int.fdiv cell 6) 12) ++ ("*" : Str)] = E1
  have hw1 : ∀ w ∈ E1, Wd w := by
    rw [← hE1]
    refine fc (wd_lit "#" (by decide)) (fc ⟨ok_num _, by omega⟩ (fc ⟨ok_app (ok_num _) ok_star, ?_⟩ fcn))
    rw [Str.length_append, sl]; omega
  have l1 : E1.length = 3 := by rw [← hE1]; rfl
  show wpSs T_13 (callF T_13 (d + 1)) _ [some (.script ns), x1, x2, some (.loc A), x4, some (.int cell), some (.loc H.length)] (H ++ [.list [.str "#", .str (numText (Int.fmod (Int.fdiv cell 6) 1000000001)), .str (numText (Int.fmod (Int.fdiv cell 6) 12) ++ ("*" : Str))]]) _ _ _
  rw [show [Val.str "#", .str (numText (Int.fmod (Int.fdiv cell 6) 1000000001)), .str (numText (Int.fmod (Int.fdiv cell 6) 12) ++ ("*" : Str))] = E1.map .str by rw [← hE1]; rfl]
  clear hE1
  have e1 : Ext H (H ++ [HObj.list (E1.map .str)]) := ⟨_, rfl⟩
  rw [wps_cons, wps_expr]
  refine wp_appendE rfl (e1.get hA) ?_
  rw [wp_sub, wp_bin, wp_var, getV_of (v := .loc H.length) rfl, wp_list, wp_cons, wp_str, wp_cons, wp_str, wp_cons, wp_str, wp_nil]
  have hw2 : ∀ w ∈ [("1000000000" : Str), ("0" : Str), ("0*" : Str)], Wd w := fc (wd_lit "1000000000" (by decide)) (fc (wd_lit "0" (by decide)) (fc (wd_lit "0*" (by decide)) fcn))
  show wpBin .add (.loc H.length) (.loc (H ++ [HObj.list (E1.map .str)]).length) (H ++ [HObj.list (E1.map .str)] ++ [HObj.list ([("1000000000" : Str), ("0" : Str), ("0*" : Str)].map .str)]) _ _
  have l2 : [("1000000000" : Str), ("0" : Str), ("0*" : Str)].length = 3 := rfl
  generalize [("1000000000" : Str), ("0" : Str), ("0*" : Str)] = E2 at hw2 l2 ⊢
  have e2 : Ext (H ++ [HObj.list (E1.map .str)]) (H ++ [HObj.list (E1.map .str)] ++ [HObj.list (E2.map .str)]) := ⟨_, rfl⟩
  rw [wb_addL (e2.get (get_new H _)) (get_new _ _) (by rw [List.length_map, List.length_map, l1, l2, hlid]; decide), wp_bin, wp_var, getV_of (v := .int cell) rfl, wp_int, wv_mod]
  refine ⟨by decide, ?_⟩
  rw [← List.map_append]
  refine ws_words (ws := E1 ++ E2) (get_new _ _) m3.1 (by rw [List.length_append, l1, l2]; exact m3.2) fun w hw => ?_
  have wd : Wd w := (List.mem_append.mp hw).elim (hw1 w) (hw2 w)
  have e3 : H ++ [HObj.list (E1.map .str)] ++ [HObj.list (E2.map .str)] ++ [HObj.list ((E1 ++ E2).map .str)] = H ++ [HObj.list (E1.map .str), HObj.list (E2.map .str), HObj.list ((E1 ++ E2).map .str)] := by simp
  rw [e3]
  refine ⟨ws.map .str, Ext.get ⟨_, rfl⟩ hA, by rw [List.length_map]; omega, ?_⟩
  refine q w _ _ wd ⟨[HObj.list (E1.map .str), HObj.list (E2.map .str), HObj.list ((E1 ++ E2).map .str)], ?_⟩
  rw [List.set_append_left _ _ cA, show (ws ++ [w]).map Val.str = ws.map Val.str ++ [.str w] by rw [List.map_append]; rfl]
theorem l13_words (ns : List Int) : Wp (callF T_13 (d + 2) 13 [.script ns]) H (fun v K => ∃ l ps c, v = .loc l ∧ K[l]? = some (.list ps) ∧ 1 ≤ ps.length ∧ ps.length ≤ 4 ∧ 1 ≤ c ∧ c ≤ 4 ∧ ∀ p ∈ ps, RowLt K c l K.length p) NoE := by
  have hlid : lid = 16777216 := rfl
  obtain ⟨r, er, hr⟩ := fmod_nat (cellAt ns 0) 4 (by decide)
  obtain ⟨c, ec, hc⟩ := fmod_nat (Int.fdiv (cellAt ns 0) 4) 4 (by decide)
  have er : Int.fmod (cellAt ns 0) 4 = r := er
  have ec : Int.fmod (Int.fdiv (cellAt ns 0) 4) 4 = c := ec
  rw [wp_call (g := f13_13) rfl rfl]
  unfold f13_13
  show wpSs T_13 _ (.cons _ _) [some (.script ns), none, none, none, none, none, none] H _ _ _
  rw [wps_cons, wps_assign, wp_list, wp_nil]
  show wpSs T_13 (callF T_13 (d + 1)) _ [some (.script ns), some (.loc H.length), none, none, none, none, none] (H ++ [.list []]) _ _ _
  rw [wps_cons]
  obtain ⟨I, hI⟩ := hide3 (fun (k : Nat) (Γ : Env') (K : Hp) => ∃ ps x2 x3 x4 x5 x6, Γ = [some (.script ns), some (.loc H.length), x2, x3, x4, x5, x6] ∧ K[H.length]? = some (.list ps) ∧ ps.length = k ∧ H.length < K.length ∧ ∀ p ∈ ps, RowLt K (1 + c) H.length K.length p)
  refine wps_eachR (n := ((1 + r : Nat) : Int)) I ?_ ⟨by omega, by omega⟩ ((hI _ _ _).mpr ⟨[], _, _, _, _, _, rfl, get_new _ _, rfl, by simp, (fun p h => nomatch h)⟩) ?_ ?_
  · rw [wp_bin, wp_int, wp_bin, wp_callE, wp_cons, wp_var, getV_zero, wp_cons, wp_int, wp_nil, l13_cellI ns (i := 0) (k := 0) rfl, wp_int, wv_mod]
    refine ⟨by decide, ?_⟩
    rw [wv_add, er]
    exact ⟨by rw [Int.natCast_add]; rfl, rfl⟩
  · intro k Γ K hk h
    obtain ⟨ps, x2, x3, x4, x5, x6, rfl, h1, h2, h3, h4⟩ := (hI _ _ _).mp h
    show wpSs T_13 (callF T_13 (d + 1)) (.cons _ _) [some (.script ns), some (.loc H.length), some (.int (k : Int)), x3, x4, x5, x6] K _ _ _
    rw [wps_cons, wps_assign, wp_list, wp_nil]
    show wpSs T_13 (callF T_13 (d + 1)) (.cons _ _) [some (.script ns), some (.loc H.length), some (.int (k : Int)), some (.loc K.length), x4, x5, x6] (K ++ [.list []]) _ _ _
    have e0 : Ext K (K ++ [HObj.list []]) := ⟨_, rfl⟩
    rw [wps_cons]
    obtain ⟨J, hJ⟩ := hide3 (fun (j : Nat) (Γ : Env') (K' : Hp) => ∃ (ws : List Str) (x4 x5 x6 : Option Val), Γ = [some (.script ns), some (.loc H.length), some (.int (k : Int)), some (.loc K.length), x4, x5, x6] ∧ K'[H.length]? = some (.list ps) ∧ (∀ p ∈ ps, RowLt K' (1 + c) H.length K.length p) ∧ K'[K.length]? = some (.list (ws.map .str)) ∧ ws.length = j ∧ ∀ w ∈ ws, Wd w)
    refine wps_eachR (n := ((1 + c : Nat) : Int)) J ?_ ⟨by omega, by omega⟩ ((hJ _ _ _).mpr ⟨[], _, _, _, rfl, e0.get h1, fun p hp => (h4 p hp).ext e0 (Nat.le_refl _), get_new _ _, rfl, fcn⟩) ?_ ?_
    · rw [wp_bin, wp_int, wp_bin, wp_bin, wp_callE, wp_cons, wp_var, getV_zero, wp_cons, wp_int, wp_nil, l13_cellI ns (i := 0) (k := 0) rfl, wp_int, wv_fdiv]
      refine ⟨by decide, ?_⟩
      rw [wp_int, wv_mod]
      refine ⟨by decide, ?_⟩
      rw [wv_add, ec]
      exact ⟨by rw [Int.natCast_add]; rfl, rfl⟩
    · intro j Γ K1 hj h
      obtain ⟨ws, y4, y5, y6, rfl, g1, g2, g3, g4, g5⟩ := (hJ _ _ _).mp h
      show wpSs T_13 (callF T_13 (d + 1)) (.cons _ _) [some (.script ns), some (.loc H.length), some (.int (k : Int)), some (.loc K.length), some (.int (j : Int)), y5, y6] K1 _ _ _
      rw [wps_cons, wps_assign, wp_callE, wp_cons, wp_var, getV_zero, wp_cons, wp_bin, wp_bin, wp_int, wp_bin, wp_var, getV_of (v := .int (k : Int)) rfl, wp_int, wv_mul]
      refine ⟨by rw [small_of (by omega) (by omega)]; rfl, ?_⟩
      rw [wv_add, wp_var, getV_of (v := .int (j : Int)) rfl, wv_add, wp_nil, l13_cellI ns (k := 4 + k * 4 + j) (by omega)]
      show wpSs T_13 (callF T_13 (d + 1)) _ [some (.script ns), some (.loc H.length), some (.int (k : Int)), some (.loc K.length), some (.int (j : Int)), some (.int (cellAt ns (4 + k * 4 + j))), y6] K1 _ _ _
      refine l13_one g3 (by omega) fun w K2 l wd e2 => (hJ _ _ _).mpr ⟨ws ++ [w], _, _, _, rfl, e2.get (get_other _ (by omega) g1), fun p hp => ((g2 p hp).set (.inr (Nat.le_refl _)) _).ext e2 (Nat.le_refl _), e2.get (get_set _ g3), by rw [List.length_append, g4]; rfl, fun v hv => ?_⟩
      rcases List.mem_append.mp hv with h | h
      · exact g5 v h
      · rw [List.mem_singleton.mp h]; exact wd
    · intro Γ K1 h
      obtain ⟨ws, y4, y5, y6, rfl, g1, g2, g3, g4, g5⟩ := (hJ _ _ _).mp h
      rw [Int.toNat_natCast] at g4
      rw [wps_cons, wps_expr]
      refine wp_appendE rfl g1 ?_
      rw [wp_var, getV_of (v := .loc K.length) rfl]
      refine ⟨ps, g1, by omega, (hI _ _ _).mpr ⟨_, _, _, _, _, _, rfl, get_set _ g1, by rw [List.length_append, h2]; rfl, by rw [List.length_set]; exact lt_of_get g1, fun p hp => ?_⟩⟩
      have lk := lt_of_get g3
      rw [List.length_set]
      rcases List.mem_append.mp hp with h | h
      · exact ((g2 p h).ext (Ext.refl _) (by omega)).set (.inl (Nat.le_refl _)) _
      · exact ⟨_, ws, List.mem_singleton.mp h, h3, lk, get_other _ (by omega) g3, g4, g5⟩
  · intro Γ K h
    obtain ⟨ps, x2, x3, x4, x5, x6, rfl, h1, h2, h3, h4⟩ := (hI _ _ _).mp h
    rw [Int.toNat_natCast] at h2
    rw [wps_cons, wps_ret, wp_oSome, wp_var, getV_of (v := .loc H.length) rfl]
    exact ⟨_, ps, 1 + c, rfl, h1, by omega, by omega, by omega, by omega, h4⟩
end
end Mine.Pure
-- part LTZ
namespace Mine.Pure
open PySem PySem.Builtin PySem.Builtin.Str
noncomputable def RowAt (K : Hp) (c : Nat) (p : Val) : Prop := ∃ (a : Nat) (ws : List Str), p = .loc a ∧ K[a]? = some (.list (ws.map .str)) ∧ ws.length = c ∧ ∀ w ∈ ws, Wd w
structure LinesAt (K : Hp) (l n c : Nat) : Prop where
  ex : ∃ ps, K[l]? = some (.list ps) ∧ 1 ≤ ps.length ∧ ps.length ≤ n ∧ ∀ p ∈ ps, RowAt K c p
theorem RowAt.ext {K K' : Hp} {c : Nat} {p : Val} (h : RowAt K c p) (e : Ext K K') : RowAt K' c p := by
  obtain ⟨a, ws, h1, h2, h3⟩ := h
  exact ⟨a, ws, h1, e.get h2, h3⟩
theorem LinesAt.ext {K K' : Hp} {l n c : Nat} (h : LinesAt K l n c) (e : Ext K K') : LinesAt K' l n c := by
  obtain ⟨ps, h1, h2, h3, h4⟩ := h.ex
  exact ⟨ps, e.get h1, h2, h3, fun p hp => (h4 p hp).ext e⟩
theorem LinesAt.put {K : Hp} {l n c a j : Nat} {ws : List Str} {w : Str} (h : LinesAt K l n c) (ha : K[a]? = some (.list (ws.map .str))) (hl : ws.length = c) (hw : ∀ w ∈ ws, Wd w) (wd : Wd w) : LinesAt (K.set a (.list ((ws.map Val.str).set j (.str w)))) l n c := by
  obtain ⟨ps, h1, h2, h3, h4⟩ := h.ex
  have ne : a ≠ l := by
    intro e
    rw [e, h1] at ha
    have ha := Option.some.inj ha
    injection ha with ha
    cases ps with
    | nil => exact absurd h2 (by decide)
    | cons p ps =>
      obtain ⟨b, _, rfl, _⟩ := h4 p (.head _)
      cases ws with
      | nil => cases ha
      | cons w ws => cases ha
  refine ⟨ps, get_other _ ne h1, h2, h3, fun p hp => ?_⟩
  obtain ⟨b, vs, rfl, g1, g2, g3⟩ := h4 p hp
  by_cases e : a = b
  · subst e
    rw [ha] at g1
    refine ⟨a, ws.set j w, rfl, ?_, by rw [List.length_set]; exact hl, fun v hv => ?_⟩
    · rw [get_set _ ha, List.map_set]
    · rcases List.mem_or_eq_of_mem_set hv with h | h
      · exact hw v h
      · rw [h]; exact wd
  · exact ⟨b, vs, rfl, get_other _ e g1, g2, g3⟩
theorem strs_map : ∀ xs : List Str, strsOf (xs.map .str) = some xs
  | [] => rfl
  | x :: xs => by
    show (strsOf (xs.map .str)).map (x :: ·) = _
    rw [strs_map xs]; rfl
theorem strs_of {A : Str → Prop} : ∀ ys : List Val, (∀ v ∈ ys, ∃ x, v = .str x ∧ A x) → ∃ xs : List Str, ys = xs.map .str ∧ ∀ x ∈ xs, A x
  | [], _ => ⟨[], rfl, fcn⟩
  | y :: ys, h => by
    obtain ⟨x, rfl, hx⟩ := h y (.head _)
    obtain ⟨xs, rfl, hxs⟩ := strs_of ys fun v hv => h v (.tail _ hv)
    exact ⟨x :: xs, rfl, fc hx hxs⟩
section
variable {T : Tab} {Φ : Funs} {H K : Hp} {d : Nat} {Q : Val → Hp → Prop} {E : Nat → Hp → Prop} {QS : Env' → Hp → Prop} {R : Val → Hp → Prop} {ES : Nat → Env' → Hp → Prop} {Γ : Env'}
theorem wm_join {s : Str} {l : Nat} {xs : List Str} (h : H[l]? = some (.list (xs.map .str))) (z : (xs.map (·.length)).sum + xs.length * s.length ≤ lid) : Wp (bmV .join (.str s) [.loc l]) H Q E = Q (.str (Txt.join s xs)) H := by
  have : bmV .join (.str s) [.loc l] H = .ok (.str (Txt.join s xs)) H := by
    show joinV s (.loc l) H = _
    unfold joinV
    rw [look_at]
    have e : itemsL (.loc l) H = some (xs.map .str) := by
      show (match H[l]? with | some (.list xs) => some xs | _ => none) = _
      rw [h]
    rw [e]
    simp only [Option.bind_some, strs_map, if_pos z]
  unfold Wp; rw [this]
theorem wp_joinE {s : Str} {e : ME} (h : wpE T Φ e Γ H (fun v K => ∃ l xs, v = .loc l ∧ K[l]? = some (.list (xs.map .str)) ∧ (xs.map (·.length)).sum + xs.length * s.length ≤ lid ∧ Q (.str (Txt.join s xs)) K) E) : wpE T Φ (.bm (.str s) .join (.cons e .nil)) Γ H Q E := by
  rw [wp_bm, wp_str, getO_of (show bmFits .join (.str s) H = some () from rfl), wp_cons]
  refine wpE_mono h ?_ fun _ _ h => h
  intro v K zz
  obtain ⟨l, xs, rfl, h1, h2, h3⟩ := zz
  rw [wp_nil, wm_join h1 h2]
  exact h3
theorem tx_set {l s4 c : Nat} {cell : Int} {E4 : List Str} {x0 x3 x5 x6 x7 x8 : Option Val} (L : LinesAt K l 4 c) (hc : 1 ≤ c) (hs : K[s4]? = some (.list (E4.map .str))) (l4 : E4.length = 16) (w4 : ∀ w ∈ E4, Wd w)
    (q : ∀ K', LinesAt K' l 4 c → QS [x0, some (.loc l), some (.int cell), x3, some (.loc s4), x5, x6, x7, x8] K') :
    wpSs T Φ (.cons (.setitem (.sub (.var 1) (.bin .mod (.var 2) (.bf .len (.cons (.var 1) .nil)))) (.bin .mod (.bin .fdiv (.var 2) (.int 4)) (.bf .len (.cons (.sub (.var 1) (.int 0)) .nil))) (.sub (.bin .add (.var 4) (.list (.cons (.str "# ") (.cons (.str "##") .nil)))) (.bin .mod (.bin .fdiv (.var 2) (.int 16)) (.int 18)))) .nil)
      [x0, some (.loc l), some (.int cell), x3, some (.loc s4), x5, x6, x7, x8] K QS R ES := by
  have hlid : lid = 16777216 := rfl
  rw [wps_cons, wps_setitem, wp_sub, wp_bin, wp_var, getV_of (v := .loc s4) rfl, wp_list, wp_cons, wp_str, wp_cons, wp_str, wp_nil]
  have hw2 : ∀ w ∈ [("# " : Str), ("##" : Str)], Wd w := fc (wd_lit "# " (by decide)) (fc (wd_lit "##" (by decide)) fcn)
  show wpBin .add (.loc s4) (.loc K.length) (K ++ [HObj.list ([("# " : Str), ("##" : Str)].map .str)]) _ _
  have l2 : [("# " : Str), ("##" : Str)].length = 2 := rfl
  generalize [("# " : Str), ("##" : Str)] = E2 at hw2 l2 ⊢
  have e2 : Ext K (K ++ [HObj.list (E2.map .str)]) := ⟨_, rfl⟩
  rw [wb_addL (e2.get hs) (get_new _ _) (by rw [List.length_map, List.length_map, l4, l2, hlid]; decide), wp_bin, wp_bin, wp_var, getV_of (v := .int cell) rfl, wp_int, wv_fdiv]
  refine ⟨by decide, ?_⟩
  rw [wp_int, wv_mod]
  refine ⟨by decide, ?_⟩
  have m := fmod_two (Int.fdiv cell 16) (show (0 : Int) < 18 by decide)
  rw [← List.map_append]
  refine ws_words (ws := E4 ++ E2) (get_new _ _) m.1 (by rw [List.length_append, l4, l2]; exact m.2) fun w hw => ?_
  have wd : Wd w := (List.mem_append.mp hw).elim (w4 w) (hw2 w)
  have e3 : Ext K (K ++ [HObj.list (E2.map .str)] ++ [HObj.list ((E4 ++ E2).map .str)]) := e2.trans ⟨_, rfl⟩
  have L3 := L.ext e3
  generalize (K ++ [HObj.list (E2.map .str)] ++ [HObj.list ((E4 ++ E2).map .str)]) = K3 at L3 e3 ⊢
  obtain ⟨ps, h1, h2, h3, h4⟩ := L3.ex
  rw [wp_sub, wp_var, getV_of (v := .loc l) rfl, wp_bin, wp_var, getV_of (v := .int cell) rfl, wp_bf, wp_cons, wp_var, getV_of (v := .loc l) rfl, wp_nil, wv_len_loc h1, wv_mod]
  refine ⟨by omega, ?_⟩
  have m1 := fmod_two cell (show (0 : Int) < (ps.length : Int) by omega)
  have lt : (Int.fmod cell ps.length).toNat < ps.length := by omega
  have hp := List.getElem_mem lt
  refine ws_list h1 m1.1 (List.getElem?_eq_getElem lt) ?_
  obtain ⟨a, ws, ea, ga, gl, gw⟩ := h4 _ hp
  obtain ⟨a0, ws0, ea0, ga0, gl0, _⟩ := h4 _ (List.getElem_mem (show 0 < ps.length from h2))
  have i0 : ps[0]? = some (.loc a0) := by rw [List.getElem?_eq_getElem (show 0 < ps.length from h2), ea0]
  rw [ea, wp_bin, wp_bin, wp_var, getV_of (v := .int cell) rfl, wp_int, wv_fdiv]
  refine ⟨by decide, ?_⟩
  rw [wp_bf, wp_cons, wp_sub, wp_var, getV_of (v := .loc l) rfl, wp_int, ws_zero h1 i0, wp_nil, wv_len_loc ga0, List.length_map, gl0, wv_mod]
  refine ⟨by omega, ?_⟩
  have m2 := fmod_two (Int.fdiv cell 4) (show (0 : Int) < (c : Int) by omega)
  rw [wa_setitem3 ga m2.1 (by rw [List.length_map, gl]; exact m2.2)]
  exact q _ (L3.put ga gl gw wd)
theorem tx_rows {l c : Nat} {cell : Int} {x0 x3 x4 x5 x6 x7 x8 : Option Val} (L : LinesAt K l 4 c) (q : ∀ K' l', LinesAt K' l' 31 c → QS [x0, some (.loc l'), some (.int cell), x3, x4, x5, x6, x7, x8] K') :
    wpSs T Φ (.cons (.assign 1 (.comp (.sub (.var 1) (.int 0)) (.bf .range (.cons (.bin .add (.int 30) (.bin .mod (.var 2) (.int 2))) .nil)) .none)) .nil) [x0, some (.loc l), some (.int cell), x3, x4, x5, x6, x7, x8] K QS R ES := by
  have hlid : lid = 16777216 := rfl
  obtain ⟨k, ek, hk⟩ := fmod_nat cell 2 (by decide)
  have ek : Int.fmod cell 2 = k := ek
  obtain ⟨ps, h1, h2, h3, h4⟩ := L.ex
  have p0 := h4 _ (List.getElem_mem (show 0 < ps.length from h2))
  rw [wps_cons, wps_assign]
  refine comp_pure (xs := rngL ((30 + k : Nat) : Int)) (src := none) (fun _ v => v = ps[0]) ?_ rfl (by rw [rngL_len]; omega) ?_ ?_
  · refine it_rng (by omega) ?_
    rw [wp_bin, wp_int, wp_bin, wp_var, getV_of (v := .int cell) rfl, wp_int, wv_mod]
    refine ⟨by decide, ?_⟩
    rw [wv_add, ek]
    exact ⟨by rw [Int.natCast_add]; rfl, rfl⟩
  · intro j x hx
    rw [wp_sub, wp_var, getV_of (v := .loc l) rfl, wp_int, ws_zero h1 (List.getElem?_eq_getElem (show 0 < ps.length from h2))]
    exact ⟨rfl, rfl⟩
  · intro ys hl hy
    refine q _ _ ⟨ys, get_new _ _, by rw [hl, rngL_len]; omega, by rw [hl, rngL_len]; omega, fun p hp => ?_⟩
    obtain ⟨j, hj⟩ := List.getElem?_of_mem hp
    rw [hy j p hj]
    exact p0.ext ⟨_, rfl⟩
theorem tx_cols {l c : Nat} {cell : Int} {x0 x3 x4 x5 x6 x7 x8 : Option Val} (L : LinesAt K l 4 c) (hc : 1 ≤ c) (q : ∀ K' l' c', c' ≤ 31 → LinesAt K' l' 4 c' → QS [x0, some (.loc l'), some (.int cell), x3, x4, x5, x6, x7, x8] K') :
    wpSs T Φ (.cons (.assign 1 (.comp (.comp (.sub (.var 9) (.int 0)) (.bf .range (.cons (.bin .add (.int 30) (.bin .mod (.var 2) (.int 2))) .nil)) .none) (.var 1) .none)) .nil) [x0, some (.loc l), some (.int cell), x3, x4, x5, x6, x7, x8] K QS R ES := by
  have hlid : lid = 16777216 := rfl
  obtain ⟨k, ek, hk⟩ := fmod_nat cell 2 (by decide)
  have ek : Int.fmod cell 2 = k := ek
  obtain ⟨ps, h1, h2, h3, h4⟩ := L.ex
  rw [wps_cons, wps_assign]
  refine comp_rows (xs := ps) (src := some l) 0 (fun _ r => ∃ ws : List Str, r = ws.map .str ∧ ws.length = 30 + k ∧ ∀ w ∈ ws, Wd w) ?_ (fun K' e => chk_list (e.get h1)) (by omega) ?_ ?_
  · rw [wp_var, getV_of (v := .loc l) rfl]; exact ⟨rfl, iter_list h1⟩
  · intro j x K1 hx e1
    obtain ⟨a, ws, rfl, ga, gl, gw⟩ := (h4 x (List.mem_of_getElem? hx)).ext e1
    have g0 : (ws.map Val.str)[0]? = some (.str ws[0]) := by rw [List.getElem?_map, List.getElem?_eq_getElem (show 0 < ws.length by omega)]; rfl
    refine comp_pure (xs := rngL ((30 + k : Nat) : Int)) (src := none) (fun _ v => v = .str ws[0]) ?_ rfl (by rw [rngL_len]; omega) ?_ ?_
    · refine it_rng (by omega) ?_
      rw [wp_bin, wp_int, wp_bin, wp_var, getV_of (v := .int cell) rfl, wp_int, wv_mod]
      refine ⟨by decide, ?_⟩
      rw [wv_add, ek]
      exact ⟨by rw [Int.natCast_add]; rfl, rfl⟩
    · intro j x hx
      rw [wp_sub, wp_var, getV_of (v := .loc a) rfl, wp_int, ws_zero ga g0]
      exact ⟨rfl, rfl⟩
    · intro ys hl hy
      obtain ⟨zs, rfl, hz⟩ := strs_of (A := Wd) ys fun v hv => by
        obtain ⟨j, hj⟩ := List.getElem?_of_mem hv
        exact ⟨_, hy j v hj, gw _ (List.getElem_mem _)⟩
      rw [List.length_map, rngL_len] at hl
      exact ⟨_, ⟨zs, rfl, by omega, hz⟩, rfl, ⟨_, rfl⟩, by rw [List.length_append]; rfl, get_new _ _⟩
  · intro g K1 hl hg e1 G _
    refine q K1 _ (30 + k) (by omega) ⟨_, G.top, by rw [List.length_map, List.length_range]; omega, by rw [List.length_map, List.length_range]; omega, fun p hp => ?_⟩
    obtain ⟨i, hi, rfl⟩ := List.mem_map.mp hp
    have lt := List.mem_range.mp hi
    have hgi : g[i]? = some g[i] := List.getElem?_eq_getElem lt
    obtain ⟨ws, ew, wl, ww⟩ := hg i _ hgi
    have gr := G.row i _ hgi
    rw [ew] at gr
    exact ⟨_, ws, rfl, gr, wl, ww⟩
theorem tx_join {l n c : Nat} {x0 x2 x3 x4 x5 x6 x7 x8 : Option Val} {ss : MSs} (L : LinesAt K l n c) (hn : n ≤ 31) (hc : n * c ≤ 124) (q : ∀ t K', Ok t → t.length ≤ 1643 → wpSs T Φ ss [x0, some (.loc l), x2, x3, x4, some (.str t), x6, x7, x8] K' QS R ES) :
    wpSs T Φ (.cons (.assign 5 (.bm (.str "\n") .join (.cons (.comp (.bm (.str " ") .join (.cons (.var 9) .nil)) (.var 1) .none) .nil))) ss) [x0, some (.loc l), x2, x3, x4, x5, x6, x7, x8] K QS R ES := by
  have hlid : lid = 16777216 := rfl
  obtain ⟨ps, h1, h2, h3, h4⟩ := L.ex
  have nl : ("\n" : Str).length = 1 := by decide +kernel
  have sl : (" " : Str).length = 1 := by decide +kernel
  have c124 : c ≤ 124 := by
    have : 1 * c ≤ n * c := Nat.mul_le_mul_right _ (by omega)
    omega
  rw [wps_cons, wps_assign]
  refine wp_joinE ?_
  refine comp_pure (xs := ps) (src := some l) (fun _ v => ∃ x, v = .str x ∧ Ok x ∧ x.length ≤ 13 * c) ?_ (chk_list h1) (by omega) ?_ ?_
  · rw [wp_var, getV_of (v := .loc l) rfl]; exact ⟨rfl, iter_list h1⟩
  · intro j x hx
    obtain ⟨a, ws, rfl, ga, gl, gw⟩ := h4 x (List.mem_of_getElem? hx)
    refine wp_joinE ?_
    rw [wp_var, getV_of (v := .loc a) rfl]
    have s1 := sum_le ws 12 fun w hw => (gw w hw).2
    have s2 := glue_len (" " : Str) ws
    rw [sl] at s2
    rw [gl] at s1 s2
    refine ⟨a, ws, rfl, ga, by rw [sl, gl]; omega, ⟨_, rfl, ok_glue ((ok_iff _).mp (by decide +kernel)) fun w hw => (gw w hw).1, by omega⟩, rfl⟩
  · intro ys hl hy
    obtain ⟨xs, rfl, hx⟩ := strs_of (A := fun x => Ok x ∧ x.length ≤ 13 * c) ys fun v hv => by
      obtain ⟨j, hj⟩ := List.getElem?_of_mem hv
      exact hy j v hj
    rw [List.length_map] at hl
    have s1 := sum_le xs (13 * c) fun w hw => (hx w hw).2
    have s2 := glue_len ("\n" : Str) xs
    rw [nl] at s2
    have s3 : xs.length * (13 * c) ≤ 1612 := by
      have a1 : xs.length * (13 * c) = 13 * (xs.length * c) := Nat.mul_left_comm ..
      have a2 : xs.length * c ≤ n * c := Nat.mul_le_mul_right _ (by omega)
      omega
    refine ⟨_, xs, rfl, get_new _ _, by rw [nl]; omega, ?_⟩
    exact q _ _ (ok_glue ((ok_iff _).mp (by decide +kernel)) fun w hw => (hx w hw).1) (by omega)
end
end Mine.Pure
-- part LTU
namespace Mine.Pure
open PySem PySem.Builtin PySem.Builtin.Str
section
variable {T : Tab} {Φ : Funs} {H K : Hp} {d : Nat} {Q : Val → Hp → Prop} {E : Nat → Hp → Prop} {QS : Env' → Hp → Prop} {R : Val → Hp → Prop} {ES : Nat → Env' → Hp → Prop} {Γ : Env'}
theorem tx_sign {t : Str} {cell : Int} {x0 x1 x3 x4 x6 x7 x8 : Option Val} (ht : Ok t) (hl : t.length ≤ 1643) (q : ∀ t' K' a b c, Ok t' → t'.length ≤ 3300 → QS [x0, x1, some (.int cell), x3, x4, some (.str t'), a, b, c] K') :
    wpSs T Φ (.cons (.assign 6 (.str " \n#*0123456789a-.+\t_!\"$&'(),/:;<=>?@ABCDEFGHIJKLMNOPQRSTUVWXYZ[\\]^`")) (.cons (.assign 6 (.bin .add (.var 6) (.str "bcdefghijklmnopqrstuvwxyz{|}~"))) (.cons (.assign 7 (.sub (.var 6) (.bin .mod (.bin .fdiv (.var 2) (.int 3)) (.bf .len (.cons (.var 6) .nil))))) (.cons (.assign 8 (.bin .mod (.bin .fdiv (.var 2) (.int 291)) (.bin .add (.bf .len (.cons (.var 5) .nil)) (.int 1)))) (.cons (.assign 5 (.bin .add (.bin .add (.slice (.var 5) .none (.some (.var 8))) (.sub (.list (.cons (.var 7) (.cons (.str "") (.cons (.var 7) .nil)))) (.bin .mod (.var 2) (.int 3)))) (.slice (.var 5) (.some (.bin .add (.var 8) (.sub (.list (.cons (.int 0) (.cons (.int 1) (.cons (.int 1) .nil)))) (.bin .mod (.var 2) (.int 3))))) .none))) .nil)))))
      [x0, x1, some (.int cell), x3, x4, some (.str t), x6, x7, x8] K QS R ES := by
  have hlid : lid = 16777216 := rfl
  have o1 : Ok (" \n#*0123456789a-.+\t_!\"$&'(),/:;<=>?@ABCDEFGHIJKLMNOPQRSTUVWXYZ[\\]^`" : Str) := ok_lit _
  have l1 : (" \n#*0123456789a-.+\t_!\"$&'(),/:;<=>?@ABCDEFGHIJKLMNOPQRSTUVWXYZ[\\]^`" : Str).length = 67 := by decide +kernel
  have o2 : Ok ("bcdefghijklmnopqrstuvwxyz{|}~" : Str) := ok_lit _
  have l2 : ("bcdefghijklmnopqrstuvwxyz{|}~" : Str).length = 29 := by decide +kernel
  generalize (" \n#*0123456789a-.+\t_!\"$&'(),/:;<=>?@ABCDEFGHIJKLMNOPQRSTUVWXYZ[\\]^`" : Str) = s1 at o1 l1 ⊢
  generalize ("bcdefghijklmnopqrstuvwxyz{|}~" : Str) = s2 at o2 l2 ⊢
  rw [wps_cons, wps_assign, wp_str]
  show wpSs T Φ (.cons _ _) [x0, x1, some (.int cell), x3, x4, some (.str t), some (.str s1), x7, x8] K _ _ _
  rw [wps_cons, wps_assign, wp_bin, wp_var, getV_of (v := .str s1) rfl, wp_str, wb_addS (by omega)]
  have o3 := ok_app o1 o2
  have l3 : (s1 ++ s2).length = 96 := by rw [Str.length_append, l1, l2]
  show wpSs T Φ (.cons _ _) [x0, x1, some (.int cell), x3, x4, some (.str t), some (.str (s1 ++ s2)), x7, x8] K _ _ _
  generalize s1 ++ s2 = s3 at o3 l3 ⊢
  rw [wps_cons, wps_assign, wp_sub, wp_var, getV_of (v := .str s3) rfl, wp_bin, wp_bin, wp_var, getV_of (v := .int cell) rfl, wp_int, wv_fdiv]
  refine ⟨by decide, ?_⟩
  rw [wp_bf, wp_cons, wp_var, getV_of (v := .str s3) rfl, wp_nil, wv_len_str, l3, wv_mod]
  refine ⟨by decide, ?_⟩
  have m1 := fmod_two (Int.fdiv cell 3) (show (0 : Int) < ((96 : Nat) : Int) by decide)
  have lt1 : (Int.fmod (Int.fdiv cell 3) ((96 : Nat) : Int)).toNat < s3.cps.size := by show _ < s3.length; rw [l3]; omega
  have c1 : s3.cps[(Int.fmod (Int.fdiv cell 3) ((96 : Nat) : Int)).toNat]? = some s3.cps[(Int.fmod (Int.fdiv cell 3) ((96 : Nat) : Int)).toNat] := Array.getElem?_eq_getElem lt1
  rw [ws_str (place_int _ _ m1.1 (by rw [l3]; exact m1.2)) c1]
  have o4 := ok_one o3 c1
  have l4 : (⟨#[s3.cps[(Int.fmod (Int.fdiv cell 3) ((96 : Nat) : Int)).toNat]]⟩ : Str).length = 1 := rfl
  show wpSs T Φ (.cons _ _) [x0, x1, some (.int cell), x3, x4, some (.str t), some (.str s3), some (.str ⟨#[s3.cps[(Int.fmod (Int.fdiv cell 3) ((96 : Nat) : Int)).toNat]]⟩), x8] K _ _ _
  generalize (⟨#[s3.cps[(Int.fmod (Int.fdiv cell 3) ((96 : Nat) : Int)).toNat]]⟩ : Str) = s4 at o4 l4 ⊢
  rw [wps_cons, wps_assign, wp_bin, wp_bin, wp_var, getV_of (v := .int cell) rfl, wp_int, wv_fdiv]
  refine ⟨by decide, ?_⟩
  rw [wp_bin, wp_bf, wp_cons, wp_var, getV_of (v := .str t) rfl, wp_nil, wv_len_str, wp_int, wv_add, wv_mod]
  refine ⟨by omega, ?_⟩
  generalize Int.fmod (Int.fdiv cell 291) ((t.length : Int) + 1) = at'
  show wpSs T Φ (.cons _ _) [x0, x1, some (.int cell), x3, x4, some (.str t), some (.str s3), some (.str s4), some (.int at')] K _ _ _
  have m2 := fmod_two cell (show (0 : Int) < 3 by decide)
  rw [wps_cons, wps_assign, wp_bin, wp_bin, wp_slice, wp_var, getV_of (v := .str t) rfl, wp_oNone, wp_oSome, wp_var, getV_of (v := .int at') rfl, wsl_str t _ _ rfl rfl, wp_sub, wp_list, wp_cons, wp_var, getV_of (v := .str s4) rfl, wp_cons, wp_str, wp_cons, wp_var, getV_of (v := .str s4) rfl, wp_nil, wp_bin, wp_var, getV_of (v := .int cell) rfl, wp_int, wv_mod]
  refine ⟨by decide, ?_⟩
  refine ws_words (ws := [s4, "", s4]) (get_new _ _) m2.1 (by exact m2.2) fun x hx => ?_
  have ox : Ok x ∧ x.length ≤ 1 := by
    have : ∀ x ∈ [s4, ("" : Str), s4], Ok x ∧ x.length ≤ 1 := fc ⟨o4, by omega⟩ (fc ⟨ok_nil, by decide +kernel⟩ (fc ⟨o4, by omega⟩ fcn))
    exact this x hx
  have sl1 := Txt.slice_le t none (some at')
  rw [wb_addS (by omega), wp_slice, wp_var, getV_of (v := .str t) rfl, wp_oSome, wp_bin, wp_var, getV_of (v := .int at') rfl, wp_sub, wp_list, wp_cons, wp_int, wp_cons, wp_int, wp_cons, wp_int, wp_nil, wp_bin, wp_var, getV_of (v := .int cell) rfl, wp_int, wv_mod]
  refine ⟨by decide, ?_⟩
  have lt2 : (Int.fmod cell 3).toNat < [Val.int 0, Val.int 1, Val.int 1].length := by show _ < 3; omega
  have iz : ∀ v ∈ [Val.int 0, Val.int 1, Val.int 1], ∃ z, v = .int z := fc ⟨_, rfl⟩ (fc ⟨_, rfl⟩ (fc ⟨_, rfl⟩ fcn))
  refine ws_list (get_new _ _) m2.1 (List.getElem?_eq_getElem lt2) ?_
  obtain ⟨z, ez⟩ := iz _ (List.getElem_mem lt2)
  have sl2 := Txt.slice_le t (some (at' + z)) none
  have len : (Txt.slice t none (some at') ++ x).length = (Txt.slice t none (some at')).length + x.length := Str.length_append ..
  rw [ez, wv_add, wp_oNone, wsl_str t _ _ rfl rfl, wb_addS (by omega)]
  refine q _ _ _ _ _ (ok_app (ok_app (ok_slice ht _ _) ox.1) (ok_slice ht _ _)) ?_
  rw [Str.length_append]
  omega
theorem go_kind {i : Nat} {kind n : Int} (hi : Γ[i]? = some (some (.int kind))) (q : Q (.bool (decide (Int.fmod kind 4 = n))) H) : wpE T Φ (.cmp .eq (.bin .mod (.var i) (.int 4)) (.int n)) Γ H Q E := by
  rw [wp_cmp, wp_bin, wp_var, getV_of hi, wp_int, wv_mod]
  refine ⟨by decide, ?_⟩
  rw [wp_int, go_eq]
  exact q
theorem l13_text (ns : List Int) : Wp (callF T_13 (d + 3) 14 [.script ns]) H (fun v _ => ∃ t, v = .str t ∧ Txt13 t) NoE := by
  have hlid : lid = 16777216 := rfl
  rw [wp_call (g := f14_13) rfl rfl]
  unfold f14_13
  show wpSs T_13 (callF T_13 (d + 2)) (.cons _ _) [some (.script ns), none, none, none, none, none, none, none, none] H _ _ _
  rw [wps_cons, wps_assign, wp_callE, wp_cons, wp_var, getV_zero, wp_nil]
  refine (l13_words ns).then ?_
  intro v K zz
  obtain ⟨l, ps, c, rfl, h1, h2, h3, c1, c4, h4⟩ := zz
  have L : LinesAt K l 4 c := ⟨ps, h1, h2, h3, fun p hp => by obtain ⟨a, ws, e1, _, _, e2, e3⟩ := h4 p hp; exact ⟨a, ws, e1, e2, e3⟩⟩
  clear h1 h2 h3 h4
  show wpSs T_13 (callF T_13 (d + 2)) (.cons _ _) [some (.script ns), some (.loc l), none, none, none, none, none, none, none] K _ _ _
  rw [wps_cons, wps_assign, wp_callE, wp_cons, wp_var, getV_zero, wp_cons, wp_int, wp_nil, l13_cellI ns (i := 1) (k := 1) rfl, wps_cons, wps_assign, wp_callE, wp_cons, wp_var, getV_of (v := .script ns) rfl, wp_cons, wp_int, wp_nil, l13_cellI ns (i := 2) (k := 2) rfl]
  generalize cellAt ns 1 = cell
  generalize cellAt ns 2 = kind
  show wpSs T_13 (callF T_13 (d + 2)) (.cons _ _) [some (.script ns), some (.loc l), some (.int cell), some (.int kind), none, none, none, none, none] K _ _ _
  rw [wps_cons, wps_assign, wp_list, wp_cons, wp_str, wp_cons, wp_str, wp_cons, wp_str, wp_cons, wp_str, wp_cons, wp_str, wp_cons, wp_str, wp_cons, wp_str, wp_cons, wp_str, wp_cons, wp_str, wp_nil]
  show wpSs T_13 (callF T_13 (d + 2)) (.cons _ _) [some (.script ns), some (.loc l), some (.int cell), some (.int kind), some (.loc K.length), none, none, none, none] (K ++ [.list ([("" : Str), ("*" : Str), ("#*" : Str), ("**" : Str), ("1**" : Str), ("*1" : Str), ("01" : Str), ("00" : Str), ("-1" : Str)].map .str)]) _ _ _
  have w1 : ∀ w ∈ [("" : Str), ("*" : Str), ("#*" : Str), ("**" : Str), ("1**" : Str), ("*1" : Str), ("01" : Str), ("00" : Str), ("-1" : Str)], Wd w := fc (wd_lit _ (by decide)) (fc (wd_lit _ (by decide)) (fc (wd_lit _ (by decide)) (fc (wd_lit _ (by decide)) (fc (wd_lit _ (by decide)) (fc (wd_lit _ (by decide)) (fc (wd_lit _ (by decide)) (fc (wd_lit _ (by decide)) (fc (wd_lit _ (by decide)) fcn))))))))
  have n1 : [("" : Str), ("*" : Str), ("#*" : Str), ("**" : Str), ("1**" : Str), ("*1" : Str), ("01" : Str), ("00" : Str), ("-1" : Str)].length = 9 := rfl
  generalize [("" : Str), ("*" : Str), ("#*" : Str), ("**" : Str), ("1**" : Str), ("*1" : Str), ("01" : Str), ("00" : Str), ("-1" : Str)] = E1 at w1 n1 ⊢
  have L := L.ext (K' := K ++ [.list (E1.map .str)]) ⟨_, rfl⟩
  have g1 := get_new K (.list (E1.map Val.str))
  generalize hK1 : K ++ [HObj.list (E1.map .str)] = K1 at L g1 ⊢
  clear hK1
  generalize K.length = s1 at g1 ⊢
  rw [wps_cons, wps_assign, wp_bin, wp_var, getV_of (v := .loc s1) rfl, wp_list, wp_cons, wp_str, wp_cons, wp_str, wp_cons, wp_str, wp_cons, wp_str, wp_cons, wp_str, wp_cons, wp_str, wp_cons, wp_str, wp_nil]
  show wpBin .add (.loc s1) (.loc K1.length) (K1 ++ [.list ([("+1" : Str), ("1000000001" : Str), ("00000000001" : Str), ("a" : Str), ("9999999999" : Str), (" " : Str), ("1000000002" : Str)].map .str)]) _ _
  have w2 : ∀ w ∈ [("+1" : Str), ("1000000001" : Str), ("00000000001" : Str), ("a" : Str), ("9999999999" : Str), (" " : Str), ("1000000002" : Str)], Wd w := fc (wd_lit _ (by decide)) (fc (wd_lit _ (by decide)) (fc (wd_lit _ (by decide)) (fc (wd_lit _ (by decide)) (fc (wd_lit _ (by decide)) (fc (wd_lit _ (by decide)) (fc (wd_lit _ (by decide)) fcn))))))
  have n2 : [("+1" : Str), ("1000000001" : Str), ("00000000001" : Str), ("a" : Str), ("9999999999" : Str), (" " : Str), ("1000000002" : Str)].length = 7 := rfl
  generalize [("+1" : Str), ("1000000001" : Str), ("00000000001" : Str), ("a" : Str), ("9999999999" : Str), (" " : Str), ("1000000002" : Str)] = E2 at w2 n2 ⊢
  have e2 : Ext K1 (K1 ++ [HObj.list (E2.map .str)]) := ⟨_, rfl⟩
  rw [wb_addL (e2.get g1) (get_new _ _) (by rw [List.length_map, List.length_map, n1, n2, hlid]; decide), ← List.map_append]
  have L := L.ext (e2.trans ⟨[.list ((E1 ++ E2).map .str)], rfl⟩)
  have g2 := get_new (K1 ++ [HObj.list (E2.map .str)]) (.list ((E1 ++ E2).map Val.str))
  show wpSs T_13 (callF T_13 (d + 2)) (.cons _ _) [some (.script ns), some (.loc l), some (.int cell), some (.int kind), some (.loc (K1 ++ [HObj.list (E2.map .str)]).length), none, none, none, none] (K1 ++ [HObj.list (E2.map .str)] ++ [.list ((E1 ++ E2).map .str)]) _ _ _
  generalize (K1 ++ [HObj.list (E2.map .str)]).length = s2 at g2 ⊢
  generalize (K1 ++ [HObj.list (E2.map .str)] ++ [HObj.list ((E1 ++ E2).map Val.str)]) = K2 at L g2 ⊢
  have n3 : (E1 ++ E2).length = 16 := by rw [List.length_append, n1, n2]
  have w3 : ∀ w ∈ E1 ++ E2, Wd w := fun w hw => (List.mem_append.mp hw).elim (w1 w) (w2 w)
  -- the joined lines, and what follows
  have fin : ∀ K l n c', LinesAt K l n c' → n ≤ 31 → n * c' ≤ 124 → wpSs T_13 (callF T_13 (d + 2)) (.cons (.assign 5 (.bm (.str "\n") .join (.cons (.comp (.bm (.str " ") .join (.cons (.var 9) .nil)) (.var 1) .none) .nil))) (.cons (.ite (.cmp .eq (.bin .mod (.var 3) (.int 4)) (.int 3)) (.cons (.assign 6 (.str " \n#*0123456789a-.+\t_!\"$&'(),/:;<=>?@ABCDEFGHIJKLMNOPQRSTUVWXYZ[\\]^`")) (.cons (.assign 6 (.bin .add (.var 6) (.str "bcdefghijklmnopqrstuvwxyz{|}~"))) (.cons (.assign 7 (.sub (.var 6) (.bin .mod (.bin .fdiv (.var 2) (.int 3)) (.bf .len (.cons (.var 6) .nil))))) (.cons (.assign 8 (.bin .mod (.bin .fdiv (.var 2) (.int 291)) (.bin .add (.bf .len (.cons (.var 5) .nil)) (.int 1)))) (.cons (.assign 5 (.bin .add (.bin .add (.slice (.var 5) .none (.some (.var 8))) (.sub (.list (.cons (.var 7) (.cons (.str "") (.cons (.var 7) .nil)))) (.bin .mod (.var 2) (.int 3)))) (.slice (.var 5) (.some (.bin .add (.var 8) (.sub (.list (.cons (.int 0) (.cons (.int 1) (.cons (.int 1) .nil)))) (.bin .mod (.var 2) (.int 3))))) .none))) .nil))))) .nil) (.cons (.ret (.some (.var 5))) .nil))) [some (.script ns), some (.loc l), some (.int cell), some (.int kind), some (.loc s2), none, none, none, none] K (fun _ _ => ∃ t, Val.none = .str t ∧ Txt13 t) (fun v _ => ∃ t, v = .str t ∧ Txt13 t) (fun c _ H' => NoE c H') := fun K l n c' LK hn hc => by
    refine tx_join LK hn hc fun t K' ot lt => ?_
    refine Eq.mpr (wps_cons _ _) (Eq.mpr (wps_ite _ _ _) (go_kind (kind := kind) rfl ?_))
    refine brB_cases (fun z => ?_) fun z => ?_
    · exact tx_sign ot lt fun t' K' a b c ot' lt' => ⟨t', rfl, ot', lt'⟩
    · exact ⟨t, rfl, ot, by omega⟩
  have two : ∀ K l n c', LinesAt K l n c' → n ≤ 31 → n * c' ≤ 124 → (Int.fmod kind 4 = 2 → n = 4 ∧ 1 ≤ c') → wpSs T_13 (callF T_13 (d + 2)) (.cons (.ite (.and (.cmp .eq (.bin .mod (.var 3) (.int 4)) (.int 2)) (.cmp .eq (.bin .mod (.bin .fdiv (.var 3) (.int 4)) (.int 2)) (.int 0))) (.cons (.assign 1 (.comp (.comp (.sub (.var 9) (.int 0)) (.bf .range (.cons (.bin .add (.int 30) (.bin .mod (.var 2) (.int 2))) .nil)) .none) (.var 1) .none)) .nil) .nil) (.cons (.assign 5 (.bm (.str "\n") .join (.cons (.comp (.bm (.str " ") .join (.cons (.var 9) .nil)) (.var 1) .none) .nil))) (.cons (.ite (.cmp .eq (.bin .mod (.var 3) (.int 4)) (.int 3)) (.cons (.assign 6 (.str " \n#*0123456789a-.+\t_!\"$&'(),/:;<=>?@ABCDEFGHIJKLMNOPQRSTUVWXYZ[\\]^`")) (.cons (.assign 6 (.bin .add (.var 6) (.str "bcdefghijklmnopqrstuvwxyz{|}~"))) (.cons (.assign 7 (.sub (.var 6) (.bin .mod (.bin .fdiv (.var 2) (.int 3)) (.bf .len (.cons (.var 6) .nil))))) (.cons (.assign 8 (.bin .mod (.bin .fdiv (.var 2) (.int 291)) (.bin .add (.bf .len (.cons (.var 5) .nil)) (.int 1)))) (.cons (.assign 5 (.bin .add (.bin .add (.slice (.var 5) .none (.some (.var 8))) (.sub (.list (.cons (.var 7) (.cons (.str "") (.cons (.var 7) .nil)))) (.bin .mod (.var 2) (.int 3)))) (.slice (.var 5) (.some (.bin .add (.var 8) (.sub (.list (.cons (.int 0) (.cons (.int 1) (.cons (.int 1) .nil)))) (.bin .mod (.var 2) (.int 3))))) .none))) .nil))))) .nil) (.cons (.ret (.some (.var 5))) .nil)))) [some (.script ns), some (.loc l), some (.int cell), some (.int kind), some (.loc s2), none, none, none, none] K (fun _ _ => ∃ t, Val.none = .str t ∧ Txt13 t) (fun v _ => ∃ t, v = .str t ∧ Txt13 t) (fun c _ H' => NoE c H') := fun K l n c' LK hn hc hk => by
    refine Eq.mpr (wps_cons _ _) (Eq.mpr (wps_ite _ _ _) ?_)
    rw [wp_and]
    refine go_kind (kind := kind) rfl ?_
    rw [asBool_bool]
    refine brB_cases (fun z => ?_) fun z => ?_
    · obtain ⟨rfl, hc1⟩ := hk (of_decide_eq_true z)
      rw [wp_cmp, wp_bin, wp_bin, wp_var, getV_of (v := .int kind) rfl, wp_int, wv_fdiv]
      refine ⟨by decide, ?_⟩
      rw [wp_int, wv_mod]
      refine ⟨by decide, ?_⟩
      rw [wp_int, go_eq, asBool_bool]
      refine brB_cases (fun z => ?_) fun z => ?_
      · exact tx_cols LK hc1 fun K' l' c'' hc'' L' => fin K' l' 4 c'' L' (by omega) (by omega)
      · exact fin K l 4 c' LK hn hc
    · exact fin K l n c' LK hn hc
  have one : ∀ K, LinesAt K l 4 c → wpSs T_13 (callF T_13 (d + 2)) (.cons (.ite (.cmp .eq (.bin .mod (.var 3) (.int 4)) (.int 1)) (.cons (.assign 1 (.comp (.sub (.var 1) (.int 0)) (.bf .range (.cons (.bin .add (.int 30) (.bin .mod (.var 2) (.int 2))) .nil)) .none)) .nil) .nil) (.cons (.ite (.and (.cmp .eq (.bin .mod (.var 3) (.int 4)) (.int 2)) (.cmp .eq (.bin .mod (.bin .fdiv (.var 3) (.int 4)) (.int 2)) (.int 0))) (.cons (.assign 1 (.comp (.comp (.sub (.var 9) (.int 0)) (.bf .range (.cons (.bin .add (.int 30) (.bin .mod (.var 2) (.int 2))) .nil)) .none) (.var 1) .none)) .nil) .nil) (.cons (.assign 5 (.bm (.str "\n") .join (.cons (.comp (.bm (.str " ") .join (.cons (.var 9) .nil)) (.var 1) .none) .nil))) (.cons (.ite (.cmp .eq (.bin .mod (.var 3) (.int 4)) (.int 3)) (.cons (.assign 6 (.str " \n#*0123456789a-.+\t_!\"$&'(),/:;<=>?@ABCDEFGHIJKLMNOPQRSTUVWXYZ[\\]^`")) (.cons (.assign 6 (.bin .add (.var 6) (.str "bcdefghijklmnopqrstuvwxyz{|}~"))) (.cons (.assign 7 (.sub (.var 6) (.bin .mod (.bin .fdiv (.var 2) (.int 3)) (.bf .len (.cons (.var 6) .nil))))) (.cons (.assign 8 (.bin .mod (.bin .fdiv (.var 2) (.int 291)) (.bin .add (.bf .len (.cons (.var 5) .nil)) (.int 1)))) (.cons (.assign 5 (.bin .add (.bin .add (.slice (.var 5) .none (.some (.var 8))) (.sub (.list (.cons (.var 7) (.cons (.str "") (.cons (.var 7) .nil)))) (.bin .mod (.var 2) (.int 3)))) (.slice (.var 5) (.some (.bin .add (.var 8) (.sub (.list (.cons (.int 0) (.cons (.int 1) (.cons (.int 1) .nil)))) (.bin .mod (.var 2) (.int 3))))) .none))) .nil))))) .nil) (.cons (.ret (.some (.var 5))) .nil))))) [some (.script ns), some (.loc l), some (.int cell), some (.int kind), some (.loc s2), none, none, none, none] K (fun _ _ => ∃ t, Val.none = .str t ∧ Txt13 t) (fun v _ => ∃ t, v = .str t ∧ Txt13 t) (fun c _ H' => NoE c H') := fun K LK => by
    refine Eq.mpr (wps_cons _ _) (Eq.mpr (wps_ite _ _ _) (go_kind (kind := kind) rfl ?_))
    refine brB_cases (fun z => ?_) fun z => ?_
    · have z := of_decide_eq_true z
      exact tx_rows LK fun K' l' L' => two K' l' 31 c L' (by omega) (by omega) fun y => by rw [z] at y; exact absurd y (by decide)
    · exact two K l 4 c LK (by omega) (by omega) fun _ => ⟨rfl, c1⟩
  rw [wps_cons, wps_ite]
  refine go_kind (kind := kind) rfl ?_
  refine brB_cases (fun z => ?_) fun z => ?_
  · exact tx_set L c1 g2 n3 w3 fun K' L' => one K' L'
  · exact one K2 L
theorem kd_list {K : Hp} {l : Nat} {xs : List Val} (h : K[l]? = some (.list xs)) : kdOf K (.loc l) = some .list := by
  delta kdOf; dsimp only; rw [h]
theorem law_13' (ns : List Int) : Wp (callF T_13 (d + 8) 15 [.script ns]) H (fun v _ => v = .bool true) NoE := by
  rw [wp_call (g := f15_13) rfl rfl]
  unfold f15_13
  show wpSs T_13 (callF T_13 (d + 7)) (.cons _ _) [some (.script ns), none, none, none] H _ _ _
  rw [wps_cons, wps_assign, wp_callE, wp_cons, wp_var, getV_zero, wp_nil]
  refine (l13_text ns).then ?_
  rintro v K ⟨t, rfl, ht⟩
  show wpSs T_13 (callF T_13 (d + 7)) (.cons _ _) [some (.script ns), some (.str t), none, none] K _ _ _
  rw [wps_cons, wps_assign, wp_callE, wp_cons, wp_var, getV_of (v := .str t) rfl, wp_nil]
  refine (l13_landof (d := d + 5) ht).then ?_
  rintro due K1 ⟨e1, h1⟩
  show wpSs T_13 (callF T_13 (d + 7)) (.cons _ _) [some (.script ns), some (.str t), some due, none] K1 _ _ _
  rw [wps_cons, wps_assign, wp_callE, wp_cons, wp_var, getV_of (v := .str t) rfl, wp_nil]
  refine (l13_found (d := d + 1) ht).then ?_
  intro found K2 h2
  show wpSs T_13 (callF T_13 (d + 7)) (.cons _ _) [some (.script ns), some (.str t), some due, some found] K2 _ _ _
  rw [wps_cons, wps_ite, wp_and, wp_cmp, wp_var, getV_of (v := due) rfl, wp_none]
  have fin : ∀ K3, (∀ K4, Ext K3 K4 → pyEq K4 found due = some true) → wpSs T_13 (callF T_13 (d + 7)) (.cons (.ite (.not (.call 11 (.cons (.sub (.list (.cons .none (.cons (.int 7) (.cons (.bool true) (.cons (.list (.cons (.str "1") .nil)) .nil))))) (.bin .mod (.call 7 (.cons (.var 0) (.cons (.int 3) .nil))) (.int 4))) .nil))) (.cons (.ret (.some (.bool false))) .nil) .nil) (.cons (.ret (.some (.cmp .eq (.var 3) (.var 2)))) .nil)) [some (.script ns), some (.str t), some due, some found] K3 (fun _ _ => Val.none = .bool true) (fun v _ => v = .bool true) (fun c _ H' => NoE c H') := by
    intro K3 hq
    rw [wps_cons, wps_ite, wp_not, wp_callE, wp_cons, wp_sub, wp_list, wp_cons, wp_none, wp_cons, wp_int, wp_cons, wp_bool, wp_cons, wp_list, wp_cons, wp_str, wp_nil, wp_nil, wp_bin, wp_callE, wp_cons, wp_var, getV_zero, wp_cons, wp_int, wp_nil, l13_cellI ns (i := 3) (k := 3) rfl, wp_int, wv_mod]
    refine ⟨by decide, ?_⟩
    have m := fmod_two (cellAt ns 3) (show (0 : Int) < 4 by decide)
    have lt : (Int.fmod (cellAt ns 3) 4).toNat < [Val.none, Val.int 7, Val.bool true, Val.loc K3.length].length := by show _ < 4; omega
    refine ws_list (get_new _ _) m.1 (List.getElem?_eq_getElem lt) ?_
    have e4 : Ext K3 (K3 ++ [HObj.list [Val.str "1"]]) := ⟨_, rfl⟩
    have e5 : Ext (K3 ++ [HObj.list [Val.str "1"]]) (K3 ++ [HObj.list [Val.str "1"]] ++ [HObj.list [Val.none, Val.int 7, Val.bool true, Val.loc K3.length]]) := ⟨_, rfl⟩
    have od : ∀ v ∈ [Val.none, Val.int 7, Val.bool true, Val.loc K3.length], ∃ k, kdOf (K3 ++ [HObj.list [Val.str "1"]] ++ [HObj.list [Val.none, Val.int 7, Val.bool true, Val.loc K3.length]]) v = some k ∧ isKd .str k = false := fc ⟨.none, rfl, rfl⟩ (fc ⟨.int, rfl, rfl⟩ (fc ⟨.bool, rfl, rfl⟩ (fc ⟨.list, kd_list (e5.get (get_new K3 _)), rfl⟩ fcn)))
    obtain ⟨k, hk, hs⟩ := od _ (List.getElem_mem lt)
    rw [wp_nil]
    refine (l13_refused (d := d + 5) (l13_odd hk hs)).then ?_
    rintro v K4 ⟨rfl, rfl⟩
    rw [asBool_bool, asBool_bool]
    show brB false _ _
    rw [brB_false, wps_nil, wps_cons, wps_ret, wp_oSome, wp_cmp, wp_var, getV_of (v := found) rfl, wp_var, getV_of (v := due) rfl]
    rw [getO_of (show cmpV .eq found due _ = some true from hq _ (e4.trans e5))]
  rcases h1 with ⟨g, rfl, R1⟩ | ⟨g, rfl⟩
  · rcases h2 with ⟨_, e2, a, b, m, rfl, G, hm⟩ | ⟨g', _⟩
    · rw [getO_of (show cmpV .is (.tup [.loc K.length, .loc (K.length + 1)]) .none K2 = some false from rfl), asBool_bool, brB_false, asBool_bool, brB_false, wps_nil]
      refine fin K2 fun K4 e4 => ?_
      have hd := R1.dr
      rw [← dkeys_all g] at hd
      exact eq_found (G.ext e4) (e4.get hm) ((R1.grid.ext e2).ext e4) (e4.get (e2.get hd))
    · exact absurd g g'
  · rcases h2 with ⟨g', _⟩ | ⟨_, rfl⟩
    · exact absurd g' g
    · rw [go_isNone_none, asBool_bool, brB_true, wp_not, wp_callE, wp_cons, wp_var, getV_of (v := .str t) rfl, wp_nil]
      refine (l13_refused (d := d + 5) (P := fun _ => True) ((l13_read (d := d + 1) ht).mono (fun v K h => g h.1) fun c K h => ⟨h.1, trivial⟩)).then ?_
      rintro v K3 ⟨rfl, _⟩
      rw [asBool_bool, asBool_bool]
      show brB false _ _
      rw [brB_false, wps_nil]
      exact fin K3 fun K4 _ => rfl
end
theorem law_13 (ns : List Int) (hlen : ns.length ≤ 63) : ∃ H', callF T_13 20 15 [.script ns] [] = .ok (.bool true) H' := by
  obtain ⟨v, H', e, rfl⟩ := (law_13' (d := 12) (H := []) ns).get
  exact ⟨H', e⟩
end Mine.Pure
-- part END
namespace Mine
open PySem PySem.W PySem.Calls
noncomputable def headAll (t : Addr → Option Obj) (N : Names) (T : Tab) (cls : List Value) (attrs : List Str) (fns : List Addr) (nss : List (List Str)) : Bool :=
  headOk t N T cls fns nss && clssAt t N T attrs fns 0 cls && attrsOk N attrs && excsOk t T cls && (t sysModules).isSome
noncomputable def fns_13 : List Addr := [28, 35, 42, 134, 141, 219, 226, 233, 240, 245, 252, 259, 266, 273, 278, 285, 153, 160, 167, 188, 200, 205]
noncomputable def q_13 : Program := view PySem.Challenge.pw_uf020016_13 [PySem.Challenge.pw_uf020016_13.main.body.length - 1]
noncomputable def loose_13 : List Str := (PySem.Challenge.pw_uf020016_13.main.scope.names.map (·.1)).filter (· != "law")
set_option maxRecDepth 100000
set_option maxHeartbeats 0
theorem left_13 : LeftO PySem.Challenge.pw_uf020016_13 q_13 loose_13 (fun s => recOk [] s) (fun s => headAll s.heap.get? N_13 T_13 [.ref 52, .ref 65, .ref 77, .ref 89, .ref 101, .ref 113, .ref 125, .ref 208, .type "ValueError"] ["rows", "columns", "grid", "sinks"] fns_13 V_13) (fun _ => true) 9000 true := by
  refine left_of (M := 8000) (by kernel_rfl) (by kernel_rfl) (fun s => by kernel_rfl) (by kernel_rfl) ?_
  intro w os
  rw [PySem.W.Fast.te4187177175401517315]
  kernel_rfl
theorem said_13 : PySem.Challenge.rw_uf020016_13.wellSaid = true := by
  rw [PySem.W.Fast.te9446332074065402090]
  kernel_rfl
noncomputable def def_13 : DefRec × List (Str × Expr) := (defOf q_13 "law").get (by kernel_rfl)
theorem hdef_13 : defOf q_13 "law" = some (def_13.1, def_13.2) := by kernel_rfl
theorem hp_13 : PySem.Challenge.pw_uf020016_13.theDef "law" = some (def_13.1.params, def_13.1.body, def_13.1.scope) := by kernel_rfl
theorem hk_13 : kwWritten? def_13.1.params.kwonlyargs def_13.1.params.kw_defaults = some def_13.2 := by kernel_rfl
end Mine
open PySem PySem.W PySem.W.X PySem.W.ZRun PyProof.Rows
set_option maxRecDepth 100000 in
set_option maxHeartbeats 0 in
theorem PySem.Challenge.cw_uf020016_13_holds : PySem.Challenge.rw_uf020016_13.Holds := by
  refine holds_law Mine.said_13 fun said => ?_
  refine holds_openX (q := Mine.q_13) (loose := Mine.loose_13) (Xt := fun s => recOk [] s) (XP := fun _ _ => True) (N := 9000) Mine.left_13 (fun _ _ => trivial) (fun _ _ _ h _ => h) Mine.hdef_13 Mine.hp_13 Mine.hk_13 (fun s e => recFacts_of e) rfl said (by decide +kernel) ⟨rfl, rfl, rfl, rfl, rfl, by decide +kernel⟩ ?hw ?hc
  case hw => exact ⟨[.list []], by decide +kernel, by decide +kernel⟩
  intro w s₀ s₁ mg mb G y fa o pm cd doc dV kV ho hd hcd hD hmg hg args vals as L hpre hlay hrd hwl hlo
  refine Ground.open G ?_
  intro T B D TE TW
  wrow_args hpre hlay hrd hwl hlo
  have y' : Mine.headAll s₀.heap.get? Mine.N_13 Mine.T_13 [.ref 52, .ref 65, .ref 77, .ref 89, .ref 101, .ref 113, .ref 125, .ref 208, .type "ValueError"] ["rows", "columns", "grid", "sinks"] Mine.fns_13 Mine.V_13 = true := y
  unfold Mine.headAll at y'
  simp only [Bool.and_eq_true] at y'
  obtain ⟨⟨⟨⟨y1, y2⟩, y3⟩, yx⟩, y4⟩ := y'
  refine Mine.finish (t := s₀.heap.get?) (N := Mine.N_13) (T := Mine.T_13) (cls := [.ref 52, .ref 65, .ref 77, .ref 89, .ref 101, .ref 113, .ref 125, .ref 208, .type "ValueError"]) (attrs := ["rows", "columns", "grid", "sinks"]) (fns := Mine.fns_13) (nss := Mine.V_13) (k := 15) (d := 20) L.keeps T.g T.b T.builtins T.nolimit y1 y2 y3 yx y4 (script_obj L (by assumption)) (by assumption) (by omega) hmg rfl ⟨rfl, by decide, by decide⟩ (Mine.Pure.law_13 _ (by omega)) ?_
  intro s' hk ho' hg'
  exact ⟨.inl ⟨_, .bool true, [], rfl, raisesW_false (by wrow_none_raised), .bool true, by wrow_post, fun _ => ⟨List.nodup_nil, fun a ha => by cases ha⟩⟩, .of_keep hk, ho', .of_eq (hg'.trans hg)⟩
