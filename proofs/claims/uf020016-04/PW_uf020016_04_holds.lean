import PyProof.Rows.All
import PyProof.StrBlock
import PyProof.StrBlockI
import PyProof.P3Statements
import PyProof.RaisesMany
import PyProof.ExcArgsOwn
import KE.KIsNot
import PyProof.DictRoadsH
import PyProof.DictKinds
import PyProof.InstLoad
import PyProof.ObjNew
import PyProof.Cells
import PyProof.WalksMore
import PyProof.Calls
import PyProof.DefCall
import PyProof.ListMulRoad
import PyProof.Rows.ListMul
import PyProof.ExcClass2
import PyProof.ExcBaseAll.ValueError
import PyProof.TupleKey
import PyProof.IsiSeqPairs
import PyProof.IsiNone
import PyProof.TupleOfSeq
import PyProof.ListRange
import PyProof.WalkInts
import PyProof.CallRoads
import PyProof.RulesTry
import PyProof.StrWalks
import PyProof.RulesDelMore
import PyProof.CompFree
import PyProof.CompUse
import PyProof.LetGo
import PyProof.AssignAttr
import PyProof.InstStoreFacts
import PyProof.SliceMore
import PyProof.WalksPairs
import PyProof.ZipIter
import PyProof.EnumFor
import PyProof.ListIndex
import PyProof.RulesAs
import Open.FastRun
import Wide.All
import OpenK.AllK
import Wide.FinOn
import Lean
import PySem.Challenge.RW_uf020016_04
set_option Elab.async false
set_option autoImplicit false
set_option genSizeOfSpec false
set_option genSizeOf false
set_option genInjectivity false
set_option tactic.hygienic false
set_option bootstrap.genMatcherCode false
set_option linter.all false
set_option linter.unusedSimpArgs false
-- part MLang
namespace Mine
open PySem
noncomputable section

inductive Val where
  | none
  | bool (b : Bool)
  | int (i : Int)
  | str (s : Str)
  | tup (vs : List Val)
  | loc (l : Nat)
  | script (ns : List Int)
  | rng (n : Int)
  | exc (c : Nat)

/- whether two lists of values are the same -/
noncomputable def sames (a b : List Val) : Bool := @decide (a = b) (Classical.propDecidable _)
theorem sames_eq (a b : List Val) (h : sames a b = true) : a = b := @of_decide_eq_true _ (Classical.propDecidable _) h
theorem sames_refl (a : List Val) : sames a a = true := @decide_eq_true _ (Classical.propDecidable _) rfl

noncomputable abbrev Key := Int × Int

inductive HObj where
  | list (xs : List Val)
  | dict (es : List (Key × Val))
  | inst (c : Nat) (fs : List (Nat × Val))
  | hid

noncomputable abbrev Hp := List HObj

inductive Res (α : Type) where
  | ok (a : α) (H : Hp)
  | exc (c : Nat) (H : Hp)
  | bad

noncomputable def M (α : Type) := Hp → Res α

namespace M
noncomputable def ret {α : Type} (a : α) : M α := fun H => .ok a H
noncomputable def bnd {α β : Type} (m : M α) (f : α → M β) : M β := fun H =>
  match m H with
  | .ok a H' => f a H'
  | .exc c H' => .exc c H'
  | .bad => .bad
noncomputable def bad {α : Type} : M α := fun _ => .bad
noncomputable def raise {α : Type} (c : Nat) : M α := fun H => .exc c H
noncomputable def ofOpt {α : Type} : Option α → M α
  | some a => ret a
  | none => bad
/- a look at the heap -/
noncomputable def look {α : Type} (f : Hp → Option α) : M α := fun H =>
  match f H with
  | some a => .ok a H
  | none => .bad
/- an exception is not awaited here -/
noncomputable def quiet {α : Type} (m : M α) : M α := fun H =>
  match m H with
  | .exc _ _ => .bad
  | r => r
/- a new object -/
noncomputable def alloc (o : HObj) : M Val := fun H => .ok (.loc H.length) (H ++ [o])
/- an object is exchanged -/
noncomputable def put (l : Nat) (o : HObj) : M Unit := fun H => .ok () (H.set l o)
end M

theorem bnd_ok {α β : Type} {m : M α} {f : α → M β} {H H' : Hp} {a : α} (h : m H = .ok a H') : (m.bnd f) H = f a H' := by
  unfold M.bnd; rw [h]
theorem bnd_exc {α β : Type} {m : M α} {f : α → M β} {H H' : Hp} {c : Nat} (h : m H = .exc c H') : (m.bnd f) H = .exc c H' := by
  unfold M.bnd; rw [h]
theorem bnd_bad {α β : Type} {m : M α} {f : α → M β} {H : Hp} (h : m H = .bad) : (m.bnd f) H = .bad := by
  unfold M.bnd; rw [h]

inductive BOp where
  | add | sub | mul | fdiv | mod
inductive COp where
  | eq | ne | lt | le | gt | is
inductive Ty where
  | int | bool | str | tuple | list
  | cls (c : Nat)
/- built-in functions -/
inductive BF where
  | len | range | list | tuple | abs | sortedSet
/- built-in methods -/
inductive BM where
  | append | rstrip

mutual
inductive ME where
  | none
  | bool (b : Bool)
  | int (i : Int)
  | str (s : Str)
  | glob (k : Nat)
  | var (i : Nat)
  | bin (op : BOp) (a b : ME)
  | neg (a : ME)
  | not (a : ME)
  | and (a b : ME)
  | or (a b : ME)
  | cmp (op : COp) (a b : ME)
  | cmp2 (op1 op2 : COp) (a b c : ME)
  | sub (a i : ME)
  | slice (a : ME) (lo hi : MEo)
  | list (es : MEs)
  | dict
  | call (f : Nat) (es : MEs)
  | new (c : Nat) (es : MEs)
  | bf (f : BF) (es : MEs)
  | bm (a : ME) (m : BM) (es : MEs)
  | isinst (a : ME) (t : Ty)
  | comp (elt : ME) (it : ME) (cond : MEo)
inductive MEo where
  | none
  | some (e : ME)
inductive MEs where
  | nil
  | cons (e : ME) (es : MEs)
end

mutual
inductive MS where
  | expr (e : ME)
  | assign (i : Nat) (e : ME)
  | setattr (o : ME) (n : Nat) (e : ME)
  | setitem (o i : ME) (e : ME)
  | ret (e : MEo)
  | ite (c : ME) (t f : MSs)
  | each (i : Nat) (it : ME) (body : MSs)
  | raise (c : Nat) (msg : Str)
  | tryx (body : MSs) (hs : MHs)
inductive MSs where
  | nil
  | cons (s : MS) (ss : MSs)
inductive MHs where
  | nil
  | cons (c : Nat) (i : Option Nat) (body : MSs) (hs : MHs)
end

structure MFun where
  arity : Nat
  nvars : Nat
  body : MSs

/- the static tables -/
structure Tab where
  funs : List MFun
  /-- of each class: its methods, by the name's number; number 0 is __init__ -/
  meths : List (List (Nat × Nat))
  /-- of each class: the classes that it stands under (itself too) -/
  subs : List (List Nat)
  globs : List Val

noncomputable def Tab.meth (T : Tab) (c m : Nat) : Option Nat := (T.meths[c]?).bind fun l => l.lookup m
noncomputable def Tab.sub (T : Tab) (c d : Nat) : Bool := ((T.subs[c]?).getD []).contains d
/- a class of exceptions of the text's own -/
noncomputable def Tab.isExc (T : Tab) (c : Nat) : Bool := (T.meth c 0).isNone && decide (2 ≤ ((T.subs[c]?).getD []).length)

/-! code that may run while an exception is handled: no loop, no raise; K tells which functions it may call -/
mutual
noncomputable def calmE (K : Nat → Bool) : ME → Bool
  | .none => true
  | .bool _ => true
  | .int _ => true
  | .str _ => true
  | .var _ => true
  | .bin _ a b => calmE K a && calmE K b
  | .cmp _ a b => calmE K a && calmE K b
  | .isinst a _ => calmE K a
  | .call f es => K f && calmEs K es
  | .bm a m es => (match m with | .rstrip => true | _ => false) && calmE K a && calmEs K es
  | _ => false
noncomputable def calmEs (K : Nat → Bool) : MEs → Bool
  | .nil => true
  | .cons e es => calmE K e && calmEs K es
end
noncomputable def calmO (K : Nat → Bool) : MEo → Bool
  | .none => true
  | .some e => calmE K e
mutual
noncomputable def calmS (K : Nat → Bool) : MS → Bool
  | .assign _ e => calmE K e
  | .ret e => calmO K e
  | .ite c t f => calmE K c && calmSs K t && calmSs K f
  | _ => false
noncomputable def calmSs (K : Nat → Bool) : MSs → Bool
  | .nil => true
  | .cons s ss => calmS K s && calmSs K ss
end
noncomputable def calmFn (T : Tab) (k : Nat) : Bool := match T.funs[k]? with
  | some f => calmSs (fun _ => false) f.body
  | none => false
noncomputable def lid : Nat := 16777216

/-! ## plain values -/
noncomputable def dats (f : Val → Option PyData) : List Val → Option (List PyData)
  | [] => some []
  | x :: xs =>
    match f x, dats f xs with
    | some d, some ds => some (d :: ds)
    | _, _ => none
/- a value as data, all the lists that it leads to written out -/
noncomputable def dataOf (H : Hp) : Nat → Val → Option PyData
  | 0, v =>
    match v with
    | .none => some .none
    | .bool b => some (.bool b)
    | .int i => some (.int i)
    | .str s => if PyData.strOk s = true then some (.str s) else none
    | _ => none
  | n + 1, v =>
    match v with
    | .none => some .none
    | .bool b => some (.bool b)
    | .int i => some (.int i)
    | .str s => if PyData.strOk s = true then some (.str s) else none
    | .tup vs => (dats (dataOf H n) vs).map .tuple
    | .loc l =>
      match H[l]? with
      | some (.list xs) => (dats (dataOf H n) xs).map .list
      | _ => none
    | _ => none
/- how deep two things are compared -/
noncomputable def deep : Nat := 6
noncomputable def pyEq (H : Hp) (a b : Val) : Option Bool :=
  match dataOf H deep a, dataOf H deep b with
  | some x, some y => some (PyData.eqv x y)
  | _, _ => none

noncomputable def lts (e f : Val → Val → Option Bool) : List Val → List Val → Option Bool
  | [], [] => some false
  | [], _ :: _ => some true
  | _ :: _, [] => some false
  | x :: xs, y :: ys =>
    match e x y with
    | some true => lts e f xs ys
    | some false => f x y
    | none => none
/- of ints, or of tuples of the same make -/
noncomputable def pyLt : Nat → Val → Val → Option Bool
  | 0, _, _ => none
  | n + 1, a, b =>
    match a, b with
    | .int x, .int y => some (decide (x < y))
    | .tup xs, .tup ys => lts (pyEq []) (pyLt n) xs ys
    | _, _ => none

noncomputable def keyOf : Val → Option Key
  | .tup [.int a, .int b] => some (a, b)
  | _ => none
noncomputable def valOf (k : Key) : Val := .tup [.int k.1, .int k.2]

noncomputable def dget (es : List (Key × Val)) (k : Key) : Option Val := es.lookup k
noncomputable def dput : List (Key × Val) → Key → Val → List (Key × Val)
  | [], k, v => [(k, v)]
  | (k', v') :: es, k, v => if k' = k then (k', v) :: es else (k', v') :: dput es k v
noncomputable def ddel : List (Key × Val) → Key → List (Key × Val)
  | [], _ => []
  | (k', v') :: es, k => if k' = k then es else (k', v') :: ddel es k

noncomputable def inList (H : Hp) (x : Val) (ys : List Val) : Option Bool :=
  match dataOf H deep x, dats (dataOf H deep) ys with
  | some d, some ds => some (ds.any fun y => PyData.eqv y d)
  | _, _ => none

noncomputable def small (a : Int) : Bool := decide (-(2 ^ 64) < a) && decide (a < 2 ^ 64)

noncomputable def binV (op : BOp) (a b : Val) : M Val :=
  match op, a, b with
  | .add, .int x, .int y => .ret (.int (x + y))
  | .sub, .int x, .int y => .ret (.int (x - y))
  | .mul, .int x, .int y => if (small x || small y) = true then .ret (.int (x * y)) else .bad
  | .fdiv, .int x, .int y => if y = 0 ∨ 1073741824 ≤ y.natAbs then .bad else .ret (.int (Int.fdiv x y))
  | .mod, .int x, .int y => if y = 0 then .bad else .ret (.int (Int.fmod x y))
  | .add, .str x, .str y => if x.length + y.length ≤ lid then .ret (.str (x ++ y)) else .bad
  | .add, .loc x, .loc y => fun H =>
    match H[x]?, H[y]? with
    | some (.list xs), some (.list ys) => if xs.length + ys.length ≤ lid then M.alloc (.list (xs ++ ys)) H else .bad
    | _, _ => .bad
  | .mul, .loc x, .int n => fun H =>
    match H[x]? with
    | some (.list [v]) => if 0 ≤ n ∧ n ≤ 1000 then M.alloc (.list (List.replicate n.toNat v)) H else .bad
    | _ => .bad
  | _, _, _ => .bad

noncomputable def flip (_neg : Bool) : Option Bool → Option Bool
  | some b => some (!b)
  | none => none

noncomputable def isV (a b : Val) : Option Bool :=
  match b with
  | .none => some (match a with | .none => true | _ => false)
  | .bool y => (match a with | .bool x => some (x == y) | _ => none)
  | _ => none

noncomputable def inV (a b : Val) (H : Hp) : Option Bool :=
  match b with
  | .loc l =>
    match H[l]? with
    | some (.list ys) => inList H a ys
    | some (.dict es) => match keyOf a with
      | some k => some (dget es k).isSome
      | none => none
    | _ => none
  | .str y => match a with
    | .str x => some (Txt.contains y x)
    | _ => none
  | _ => none

noncomputable def cmpV (op : COp) (a b : Val) (H : Hp) : Option Bool :=
  match op with
  | .eq => pyEq H a b
  | .ne => flip true (pyEq H a b)
  | .lt => pyLt deep a b
  | .gt => (match a, b with | .int x, .int y => some (decide (x > y)) | _, _ => none)
  | .le => (match a, b with | .int x, .int y => some (decide (x ≤ y)) | _, _ => none)
  | .is => isV a b

/-! ## items, parts -/
noncomputable def iterOf (v : Val) (H : Hp) : Option (List Val × Option Nat) :=
  match v with
  | .loc l =>
    match H[l]? with
    | some (.list xs) => some (xs, some l)
    | _ => none
  | .tup xs => some (xs, none)
  | .script ns => some (ns.map .int, none)
  | .rng n => some ((List.range n.toNat).map (fun (k : Nat) => .int (k : Int)), none)
  | .str s => some (s.cps.toList.map (fun c => .str ⟨#[c]⟩), none)
  | _ => none
noncomputable def chk (src : Option Nat) (xs : List Val) (H : Hp) : Bool :=
  match src with
  | none => true
  | some l =>
    match H[l]? with
    | some (.list ys) => sames ys xs
    | _ => false
/- what a list, tuple or the script holds -/
noncomputable def itemsOf (v : Val) (H : Hp) : Option (List Val) :=
  match v with
  | .loc l =>
    match H[l]? with
    | some (.list xs) => some xs
    | _ => none
  | .tup xs => some xs
  | .script ns => some (ns.map .int)
  | _ => none
noncomputable def placeOf (i : Int) (n : Nat) : Option Nat :=
  if 0 ≤ i then (if i < n then some i.toNat else none) else (if -(n : Int) ≤ i then some (i + n).toNat else none)
noncomputable def clampTo (i : Int) (n : Nat) : Nat := if i < 0 then (i + n).toNat else min i.toNat n
noncomputable def sliceL {α : Type} (xs : List α) (lo hi : Option Int) : List α :=
  let a := match lo with | none => 0 | some i => clampTo i xs.length
  let b := match hi with | none => xs.length | some i => clampTo i xs.length
  (xs.drop a).take (b - a)
noncomputable def boundOf : Val → Option (Option Int)
  | .none => some none
  | .int i => some (some i)
  | _ => none

noncomputable def subV (a i : Val) : M Val := .look fun H =>
  match a, i with
  | .loc l, i =>
    match H[l]?, i with
    | some (.list xs), .int k => (placeOf k xs.length).bind fun p => xs[p]?
    | some (.dict es), i => (keyOf i).bind (dget es)
    | _, _ => none
  | .tup xs, .int k => if 0 ≤ k then xs[k.toNat]? else none
  | .script ns, .int k => (placeOf k ns.length).bind fun p => (ns[p]?).map .int
  | .str s, .int k => (placeOf k s.length).bind fun p => (s.cps[p]?).map fun c => .str ⟨#[c]⟩
  | _, _ => none
noncomputable def isTup : Val → Bool
  | .tup _ => true
  | _ => false
/- which end a slice cuts off, and where -/
noncomputable def cutOf (lo hi : Val) : Option (Bool × Nat) := match lo with
  | .int k => (match hi with
    | .none => if 0 ≤ k then some (true, k.toNat) else none
    | _ => none)
  | .none => (match hi with
    | .int k => if 0 ≤ k then some (false, k.toNat) else none
    | _ => none)
  | _ => none
noncomputable def cut {α : Type} (p : Bool × Nat) (xs : List α) : List α := match p.1 with
  | true => xs.drop p.2
  | false => xs.take p.2
/- from a place on, or up to a place -/
noncomputable def sliceV (a lo hi : Val) : M Val := fun H =>
  match cutOf lo hi with
  | some p => (match itemsOf a H with
    | some xs => if isTup a = true then .bad else M.alloc (.list (cut p xs)) H
    | none => .bad)
  | none => .bad

/- an order of some values -/
structure Order (xs : List Val) (lt : Val → Val → Bool) : Prop where
  is : ∀ x ∈ xs, ∀ y ∈ xs, pyLt deep x y = some (lt x y)
  asym : ∀ x ∈ xs, ∀ y ∈ xs, lt x y = true → lt y x = false
  tr : ∀ x ∈ xs, ∀ y ∈ xs, ∀ z ∈ xs, lt y x = false → lt z y = false → lt z x = false
  anti : ∀ x ∈ xs, ∀ y ∈ xs, lt x y = false → lt y x = false → x = y
/- few values of one make, in an order -/
noncomputable def Sortable (xs : List Val) : Prop := xs.length < 64 ∧ ((∀ x ∈ xs, ∃ i, x = .int i) ∨ ∀ x ∈ xs, ∃ i r, x = .tup (.int i :: r)) ∧ ∃ lt, Order xs lt
noncomputable def IsSorted (xs ys : List Val) : Prop := ys.Perm xs ∧ ys.Pairwise fun a b => pyLt deep b a = some false
open Classical in
noncomputable def sortOf (xs : List Val) : Option (List Val) := if h : Sortable xs ∧ ∃ ys, IsSorted xs ys then some (choose h.2) else none
theorem sorted_uniq {xs : List Val} {lt : Val → Val → Bool} (O : Order xs lt) : ∀ (ys zs : List Val), (∀ y ∈ ys, y ∈ xs) → ys.Perm zs → (ys.Pairwise fun a b => pyLt deep b a = some false) → (zs.Pairwise fun a b => pyLt deep b a = some false) → ys = zs
  | [], zs, _, p, _, _ => (List.nil_perm.mp p).symm
  | y :: ys, [], _, p, _, _ => by have := p.length_eq; simp at this
  | y :: ys, z :: zs, hs, p, sy, sz => by
    have hy := List.pairwise_cons.mp sy
    have hz := List.pairwise_cons.mp sz
    have my : y ∈ xs := hs y (.head _)
    have mz : z ∈ xs := hs z (p.mem_iff.mpr (.head _))
    have irr : ∀ x ∈ xs, lt x x = false := fun x hx => by
      cases q : lt x x with
      | false => rfl
      | true => rw [O.asym x hx x hx q] at q; cases q
    have g : ∀ a ∈ xs, ∀ b ∈ xs, pyLt deep a b = some false → lt a b = false := fun a ha b hb h => by rw [O.is a ha b hb] at h; exact Option.some.inj h
    have e : y = z := by
      refine O.anti y my z mz ?_ ?_
      · have m2 : y ∈ z :: zs := p.mem_iff.mp (.head _)
        cases m2 with
        | head => exact irr _ my
        | tail _ h => exact g y my z mz (hz.1 y h)
      · have m1 : z ∈ y :: ys := p.mem_iff.mpr (.head _)
        cases m1 with
        | head => exact irr _ mz
        | tail _ h => exact g z mz y my (hy.1 z h)
    subst e
    rw [sorted_uniq O ys zs (fun x hx => hs x (.tail _ hx)) (List.perm_cons y |>.mp p) hy.2 hz.2]
theorem sortOf_eq {xs ys : List Val} (h : Sortable xs) (s : IsSorted xs ys) : sortOf xs = some ys := by
  have q : Sortable xs ∧ ∃ ys, IsSorted xs ys := ⟨h, ys, s⟩
  unfold sortOf
  rw [dif_pos q]
  obtain ⟨lt, O⟩ := h.2.2
  have c := Classical.choose_spec q.2
  rw [sorted_uniq O _ ys (fun y hy => c.1.mem_iff.mp hy) (c.1.trans s.1.symm) c.2 s.2]
set_option tactic.hygienic true in
theorem sortOf_some {xs ys : List Val} (h : sortOf xs = some ys) : Sortable xs ∧ IsSorted xs ys := by
  unfold sortOf at h
  split at h
  · rename_i q
    cases h
    exact ⟨q.1, Classical.choose_spec q.2⟩
  · cases h
noncomputable def leastV (better : Val → Val → Option Bool) : List Val → Option Val
  | [] => none
  | x :: xs => xs.foldl (fun m y => m.bind fun m => (better y m).map fun b => if b = true then y else m) (some x)

noncomputable def numText (i : Int) : Str := Str.ofString (toString i)

noncomputable def strsOf : List Val → Option (List Str)
  | [] => some []
  | .str s :: r => (strsOf r).map (s :: ·)
  | _ :: _ => none

noncomputable def bfV (f : BF) (args : List Val) : M Val :=
  match f, args with
  | .len, [v] => .look fun H =>
    match v with
    | .str s => some (.int s.length)
    | v => (itemsOf v H).map fun xs => .int xs.length
  | .range, [.int n] => if -1073741824 ≤ n ∧ n ≤ 1073741824 then .ret (.rng n) else .bad
  | .list, [v] => fun H =>
    match v with
    | .rng n => if n ≤ 100000 then M.alloc (.list ((List.range n.toNat).map fun (k : Nat) => .int (k : Int))) H else .bad
    | .loc _ => match itemsOf v H with
      | some xs => M.alloc (.list xs) H
      | none => .bad
    | _ => .bad
  | .tuple, [.loc l] => fun H =>
    match itemsOf (.loc l) H with
    | some xs => .ok (.tup xs) H
    | none => .bad
  | .abs, [.int a] => .ret (.int a.natAbs)
  | _, _ => .bad

noncomputable def bmV (m : BM) (o : Val) (args : List Val) : M Val := fun H =>
  match o with
  | .str s =>
    match m, args with
    | .rstrip, [] => if (Txt.rstrip s).length ≤ lid then .ok (.str (Txt.rstrip s)) H else .bad
    | _, _ => .bad
  | .loc l =>
    match H[l]? with
    | some (.list xs) =>
      match m, args with
      | .append, [v] => if xs.length < lid then .ok .none (H.set l (.list (xs ++ [v]))) else .bad
      | _, _ => .bad
    | some (.dict es) =>
      match m, args with
      | _, _ => .bad
    | _ => .bad
  | _ => .bad

/- the built-in kinds -/
inductive Kd where
  | none | bool | int | str | tuple | list | dict
noncomputable def kdOf (H : Hp) : Val → Option Kd
  | .none => some .none
  | .bool _ => some .bool
  | .int _ => some .int
  | .str _ => some .str
  | .tup _ => some .tuple
  | .script _ => some .list
  | .loc l =>
    match H[l]? with
    | some (.list _) => some .list
    | some (.dict _) => some .dict
    | _ => none
  | _ => none
noncomputable def isKd : Ty → Kd → Bool
  | .int, .int => true
  | .int, .bool => true
  | .bool, .bool => true
  | .str, .str => true
  | .tuple, .tuple => true
  | .list, .list => true
  | _, _ => false
noncomputable def isinstV (T : Tab) (v : Val) (t : Ty) : M Val := .look fun H =>
  match t with
  | .cls d =>
    match v with
    | .exc c => if T.isExc c = true then some (.bool (T.sub c d)) else none
    | _ => none
  | t => (kdOf H v).map fun k => .bool (isKd t k)

noncomputable def attrV (v : Val) (n : Nat) : M Val := .look fun H =>
  match v with
  | .loc l =>
    match H[l]? with
    | some (.inst _ fs) => fs.lookup n
    | _ => none
  | _ => none

noncomputable def fput : List (Nat × Val) → Nat → Val → List (Nat × Val)
  | [], n, v => [(n, v)]
  | (m, u) :: r, n, v => if m = n then (m, v) :: r else (m, u) :: fput r n v

noncomputable def setattrV (o : Val) (n : Nat) (v : Val) : M Unit := fun H =>
  match o with
  | .loc l =>
    match H[l]? with
    | some (.inst c fs) => .ok () (H.set l (.inst c (fput fs n v)))
    | _ => .bad
  | _ => .bad
noncomputable def setitemV (o i v : Val) : M Unit := fun H =>
  match o with
  | .loc l =>
    match H[l]? with
    | some (.list xs) =>
      match i with
      | .int k => if 0 ≤ k ∧ k < xs.length then .ok () (H.set l (.list (xs.set k.toNat v))) else .bad
      | _ => .bad
    | some (.dict es) =>
      match keyOf i with
      | some k => if es.length < lid then .ok () (H.set l (.dict (dput es k v))) else .bad
      | none => .bad
    | _ => .bad
  | _ => .bad

/- whether a thing has the method, when it is looked up -/
noncomputable def bmFits (m : BM) (o : Val) (H : Hp) : Option Unit :=
  match o with
  | .str _ =>
    match m with
    | .rstrip => some ()
    | _ => none
  | .loc l =>
    match H[l]? with
    | some (.list _) =>
      match m with
      | .append => some ()
      | _ => none
    | some (.dict _) =>
      match m with
      | _ => none
    | _ => none
  | _ => none

noncomputable def truth : Val → M Bool
  | .bool b => .ret b
  | _ => .bad

noncomputable abbrev Env' := List (Option Val)
noncomputable abbrev Funs := Nat → List Val → M Val

noncomputable def compL (chk : Hp → Bool) (step : Val → M (Option Val)) : List Val → M (List Val)
  | [] => fun H => if chk H = true then .ok [] H else .bad
  | x :: xs => fun H => if chk H = true then ((step x).bnd fun r => (compL chk step xs).bnd fun ys => .ret (match r with | some y => y :: ys | none => ys)) H else .bad

noncomputable def newV (T : Tab) (Φ : Funs) (c : Nat) (args : List Val) : M Val :=
  match T.meth c 0 with
  | some k => (M.alloc (.inst c [])).bnd fun o => (Φ k (o :: args)).bnd fun r => match r with
    | .none => .ret o
    | _ => .bad
  | none => .bad
noncomputable def umethOf (T : Tab) (o : Val) (m : Nat) : M Nat := .look fun H =>
  match o with
  | .loc l =>
    match H[l]? with
    | some (.inst c _) => T.meth c m
    | _ => none
  | _ => none

mutual
noncomputable def evalE (T : Tab) (Φ : Funs) : ME → Env' → M Val
  | .none, _ => .ret .none
  | .bool b, _ => .ret (.bool b)
  | .int i, _ => .ret (.int i)
  | .str s, _ => .ret (.str s)
  | .glob k, _ => .ofOpt T.globs[k]?
  | .var i, Γ => .ofOpt (match Γ[i]? with | some (some v) => some v | _ => none)
  | .bin op a b, Γ => (evalE T Φ a Γ).bnd fun x => (evalE T Φ b Γ).bnd fun y => binV op x y
  | .neg a, Γ => (evalE T Φ a Γ).bnd fun x => match x with
    | .int i => .ret (.int (-i))
    | _ => .bad
  | .not a, Γ => (evalE T Φ a Γ).bnd fun x => (truth x).bnd fun b => .ret (.bool (!b))
  | .and a b, Γ => (evalE T Φ a Γ).bnd fun x => (truth x).bnd fun t => match t with
    | true => evalE T Φ b Γ
    | false => .ret (.bool false)
  | .or a b, Γ => (evalE T Φ a Γ).bnd fun x => (truth x).bnd fun t => match t with
    | true => .ret (.bool true)
    | false => evalE T Φ b Γ
  | .cmp op a b, Γ => (evalE T Φ a Γ).bnd fun x => (evalE T Φ b Γ).bnd fun y => (M.look (cmpV op x y)).bnd fun r => .ret (.bool r)
  | .cmp2 op1 op2 a b c, Γ => (evalE T Φ a Γ).bnd fun x => (evalE T Φ b Γ).bnd fun y => (M.look (cmpV op1 x y)).bnd fun r => match r with
    | true => (evalE T Φ c Γ).bnd fun z => (M.look (cmpV op2 y z)).bnd fun r => .ret (.bool r)
    | false => .ret (.bool false)
  | .sub a i, Γ => (evalE T Φ a Γ).bnd fun x => (evalE T Φ i Γ).bnd fun y => subV x y
  | .slice a lo hi, Γ => (evalE T Φ a Γ).bnd fun x => (evalO T Φ lo Γ).bnd fun l => (evalO T Φ hi Γ).bnd fun h => sliceV x l h
  | .list es, Γ => (evalEs T Φ es Γ).bnd fun vs => M.alloc (.list vs)
  | .dict, _ => M.alloc (.dict [])
  | .call f es, Γ => (evalEs T Φ es Γ).bnd fun vs => Φ f vs
  | .new c es, Γ => match T.meth c 0 with
    | some _ => (evalEs T Φ es Γ).bnd fun vs => newV T Φ c vs
    | none => M.bad
  | .bf f es, Γ => (evalEs T Φ es Γ).bnd fun vs => bfV f vs
  | .bm a m es, Γ => (evalE T Φ a Γ).bnd fun o => (M.look (bmFits m o)).bnd fun _ => (evalEs T Φ es Γ).bnd fun vs => bmV m o vs
  | .isinst a t, Γ => (evalE T Φ a Γ).bnd fun x => isinstV T x t
  | .comp elt it cond, Γ => (evalE T Φ it Γ).bnd fun v => (M.look (iterOf v)).bnd fun p =>
      (M.quiet (compL (chk p.2 p.1) (fun x => (evalC T Φ cond (Γ ++ [some x])).bnd fun b => match b with
        | true => (evalE T Φ elt (Γ ++ [some x])).bnd fun y => .ret (some y)
        | false => .ret none) p.1)).bnd fun ys => if ys.length < lid then M.alloc (.list ys) else .bad
noncomputable def evalO (T : Tab) (Φ : Funs) : MEo → Env' → M Val
  | .none, _ => .ret .none
  | .some e, Γ => evalE T Φ e Γ
noncomputable def evalC (T : Tab) (Φ : Funs) : MEo → Env' → M Bool
  | .none, _ => .ret true
  | .some e, Γ => (evalE T Φ e Γ).bnd truth
noncomputable def evalEs (T : Tab) (Φ : Funs) : MEs → Env' → M (List Val)
  | .nil, _ => .ret []
  | .cons e es, Γ => (evalE T Φ e Γ).bnd fun v => (evalEs T Φ es Γ).bnd fun vs => .ret (v :: vs)
end

inductive ResS where
  | next (Γ : Env') (H : Hp)
  | ret (v : Val) (H : Hp)
  | exc (c : Nat) (Γ : Env') (H : Hp)
  | bad

noncomputable def bndS {α : Type} (m : M α) (Γ : Env') (f : α → Hp → ResS) (H : Hp) : ResS :=
  match m H with
  | .ok a H' => f a H'
  | .exc c H' => .exc c Γ H'
  | .bad => .bad
noncomputable def thenS (r : ResS) (f : Env' → Hp → ResS) : ResS :=
  match r with
  | .next Γ H => f Γ H
  | .ret v H => .ret v H
  | .exc c Γ H => .exc c Γ H
  | .bad => .bad

noncomputable def eachL (chk : Hp → Bool) (bind : Val → Env' → Option Env') (body : Env' → Hp → ResS) : List Val → Env' → Hp → ResS
  | [], Γ, H => if chk H = true then .next Γ H else .bad
  | x :: xs, Γ, H => if chk H = true then (match bind x Γ with
    | some Γ' => thenS (body Γ' H) (eachL chk bind body xs)
    | none => .bad) else .bad
noncomputable def whileL (cond : Env' → M Bool) (body : Env' → Hp → ResS) : Nat → Env' → Hp → ResS
  | 0, _, _ => .bad
  | n + 1, Γ, H =>
    match cond Γ H with
    | .ok true H' =>
      match body Γ H' with
      | .next Γ' H'' => whileL cond body n Γ' H''
      | .ret v H'' => .ret v H''
      | _ => .bad
    | .ok false H' => .next Γ H'
    | _ => .bad
noncomputable def turns : Nat := 2 ^ 40

noncomputable def pairUp : List Val → List Val → List Val
  | a :: as, b :: bs => .tup [a, b] :: pairUp as bs
  | _, _ => []
noncomputable def countUp : Nat → List Val → List Val
  | _, [] => []
  | n, a :: as => .tup [.int n, a] :: countUp (n + 1) as
noncomputable def bind1 (i : Nat) (v : Val) (Γ : Env') : Option Env' := some (Γ.set i (some v))
noncomputable def bind2 (i j : Nat) (v : Val) (Γ : Env') : Option Env' :=
  match v with
  | .tup [a, b] => some ((Γ.set i (some a)).set j (some b))
  | _ => none
noncomputable def listOf (v : Val) (H : Hp) : Option (List Val × Nat) :=
  match v with
  | .loc l =>
    match H[l]? with
    | some (.list xs) => some (xs, l)
    | _ => none
  | _ => none
/- two lists, or two tuples -/
noncomputable def zipOf (v w : Val) (H : Hp) : Option ((List Val × Option Nat) × (List Val × Option Nat)) :=
  match v with
  | .tup xs => (match w with
    | .tup ys => some ((xs, none), (ys, none))
    | _ => none)
  | v => (match listOf v H, listOf w H with
    | some p, some q => some ((p.1, some p.2), (q.1, some q.2))
    | _, _ => none)
noncomputable def isHid (l : Nat) (H : Hp) : Bool :=
  match H[l]? with
  | some .hid => true
  | _ => false

mutual
noncomputable def execS (T : Tab) (Φ : Funs) : MS → Env' → Hp → ResS
  | .expr e, Γ, H => bndS (evalE T Φ e Γ) Γ (fun _ H => .next Γ H) H
  | .assign i e, Γ, H => bndS (evalE T Φ e Γ) Γ (fun v H => .next (Γ.set i (some v)) H) H
  | .setattr o n e, Γ, H => bndS (evalE T Φ e Γ) Γ (fun v => bndS (evalE T Φ o Γ) Γ fun o => bndS (setattrV o n v) Γ fun _ H => .next Γ H) H
  | .setitem o i e, Γ, H => bndS (evalE T Φ e Γ) Γ (fun v => bndS (evalE T Φ o Γ) Γ fun o => bndS (evalE T Φ i Γ) Γ fun i => bndS (setitemV o i v) Γ fun _ H => .next Γ H) H
  | .ret e, Γ, H => bndS (evalO T Φ e Γ) Γ (fun v H => .ret v H) H
  | .ite c t f, Γ, H => bndS ((evalE T Φ c Γ).bnd truth) Γ (fun b => match b with
    | true => execSs T Φ t Γ
    | false => execSs T Φ f Γ) H
  | .each i it body, Γ, H => bndS (evalE T Φ it Γ) Γ (fun v => bndS (M.look (iterOf v)) Γ fun p => eachL (chk p.2 p.1) (bind1 i) (execSs T Φ body) p.1 Γ) H
  | .raise c _, Γ, H => if T.isExc c = true then .exc c Γ H else .bad
  | .tryx body hs, Γ, H =>
    match execSs T Φ body Γ H with
    | .exc c Γ' H' => execH T Φ hs c Γ' H'
    | r => r
noncomputable def execSs (T : Tab) (Φ : Funs) : MSs → Env' → Hp → ResS
  | .nil, Γ, H => .next Γ H
  | .cons s ss, Γ, H => thenS (execS T Φ s Γ H) (execSs T Φ ss)
noncomputable def execH (T : Tab) (Φ : Funs) : MHs → Nat → Env' → Hp → ResS
  | .nil, c, Γ, H => .exc c Γ H
  | .cons d i body hs, c, Γ, H =>
    if (T.isExc c && T.isExc d && calmSs (calmFn T) body) = false then .bad else if T.sub c d = true then
      match execSs T Φ body (match i with | some i => Γ.set i (some (.exc c)) | none => Γ) H with
      | .ret v H' => .ret v H'
      | _ => .bad
    else execH T Φ hs c Γ H
end

/- what a body's end gives back -/
noncomputable def resOf : ResS → Res Val
  | .next _ H' => .ok .none H'
  | .ret v H' => .ok v H'
  | .exc c _ H' => .exc c H'
  | .bad => .bad
noncomputable def runF (T : Tab) (Φ : Funs) (f : MFun) (args : List Val) : M Val := fun H =>
  if args.length = f.arity then resOf (execSs T Φ f.body (args.map some ++ List.replicate f.nvars none) H) else .bad
noncomputable def callF (T : Tab) : Nat → Funs
  | 0, _, _ => .bad
  | d + 1, k, args =>
    match T.funs[k]? with
    | none => .bad
    | some f => runF T (callF T d) f args
theorem ev_none {T : Tab} {Φ : Funs} {Γ : Env'} : evalE T Φ .none Γ = (.ret .none) := rfl
theorem ev_bool {T : Tab} {Φ : Funs} {Γ : Env'} (b) : evalE T Φ (.bool b) Γ = (.ret (.bool b)) := rfl
theorem ev_int {T : Tab} {Φ : Funs} {Γ : Env'} (i) : evalE T Φ (.int i) Γ = (.ret (.int i)) := rfl
theorem ev_str {T : Tab} {Φ : Funs} {Γ : Env'} (s) : evalE T Φ (.str s) Γ = (.ret (.str s)) := rfl
theorem ev_glob {T : Tab} {Φ : Funs} {Γ : Env'} (k) : evalE T Φ (.glob k) Γ = (.ofOpt T.globs[k]?) := rfl
theorem ev_var {T : Tab} {Φ : Funs} {Γ : Env'} (i) : evalE T Φ (.var i) Γ = (.ofOpt (match Γ[i]? with | some (some v) => some v | _ => none)) := rfl
theorem ev_bin {T : Tab} {Φ : Funs} {Γ : Env'} (op a b) : evalE T Φ (.bin op a b) Γ = ((evalE T Φ a Γ).bnd fun x => (evalE T Φ b Γ).bnd fun y => binV op x y) := rfl
theorem ev_neg {T : Tab} {Φ : Funs} {Γ : Env'} (a) : evalE T Φ (.neg a) Γ = ((evalE T Φ a Γ).bnd fun x => match x with
    | .int i => .ret (.int (-i))
    | _ => .bad) := rfl
theorem ev_not {T : Tab} {Φ : Funs} {Γ : Env'} (a) : evalE T Φ (.not a) Γ = ((evalE T Φ a Γ).bnd fun x => (truth x).bnd fun b => .ret (.bool (!b))) := rfl
theorem ev_and {T : Tab} {Φ : Funs} {Γ : Env'} (a b) : evalE T Φ (.and a b) Γ = ((evalE T Φ a Γ).bnd fun x => (truth x).bnd fun t => match t with
    | true => evalE T Φ b Γ
    | false => .ret (.bool false)) := rfl
theorem ev_or {T : Tab} {Φ : Funs} {Γ : Env'} (a b) : evalE T Φ (.or a b) Γ = ((evalE T Φ a Γ).bnd fun x => (truth x).bnd fun t => match t with
    | true => .ret (.bool true)
    | false => evalE T Φ b Γ) := rfl
theorem ev_cmp {T : Tab} {Φ : Funs} {Γ : Env'} (op a b) : evalE T Φ (.cmp op a b) Γ = ((evalE T Φ a Γ).bnd fun x => (evalE T Φ b Γ).bnd fun y => (M.look (cmpV op x y)).bnd fun r => .ret (.bool r)) := rfl
theorem ev_cmp2 {T : Tab} {Φ : Funs} {Γ : Env'} (op1 op2 a b c) : evalE T Φ (.cmp2 op1 op2 a b c) Γ = ((evalE T Φ a Γ).bnd fun x => (evalE T Φ b Γ).bnd fun y => (M.look (cmpV op1 x y)).bnd fun r => match r with
    | true => (evalE T Φ c Γ).bnd fun z => (M.look (cmpV op2 y z)).bnd fun r => .ret (.bool r)
    | false => .ret (.bool false)) := rfl
theorem ev_sub {T : Tab} {Φ : Funs} {Γ : Env'} (a i) : evalE T Φ (.sub a i) Γ = ((evalE T Φ a Γ).bnd fun x => (evalE T Φ i Γ).bnd fun y => subV x y) := rfl
theorem ev_slice {T : Tab} {Φ : Funs} {Γ : Env'} (a lo hi) : evalE T Φ (.slice a lo hi) Γ = ((evalE T Φ a Γ).bnd fun x => (evalO T Φ lo Γ).bnd fun l => (evalO T Φ hi Γ).bnd fun h => sliceV x l h) := rfl
theorem ev_list {T : Tab} {Φ : Funs} {Γ : Env'} (es) : evalE T Φ (.list es) Γ = ((evalEs T Φ es Γ).bnd fun vs => M.alloc (.list vs)) := rfl
theorem ev_dict {T : Tab} {Φ : Funs} {Γ : Env'} : evalE T Φ .dict Γ = (M.alloc (.dict [])) := rfl
theorem ev_call {T : Tab} {Φ : Funs} {Γ : Env'} (f es) : evalE T Φ (.call f es) Γ = ((evalEs T Φ es Γ).bnd fun vs => Φ f vs) := rfl
theorem ev_new {T : Tab} {Φ : Funs} {Γ : Env'} (c es) : evalE T Φ (.new c es) Γ = (match T.meth c 0 with
    | some _ => (evalEs T Φ es Γ).bnd fun vs => newV T Φ c vs
    | none => M.bad) := rfl
theorem ev_bf {T : Tab} {Φ : Funs} {Γ : Env'} (f es) : evalE T Φ (.bf f es) Γ = ((evalEs T Φ es Γ).bnd fun vs => bfV f vs) := rfl
theorem ev_bm {T : Tab} {Φ : Funs} {Γ : Env'} (a m es) : evalE T Φ (.bm a m es) Γ = ((evalE T Φ a Γ).bnd fun o => (M.look (bmFits m o)).bnd fun _ => (evalEs T Φ es Γ).bnd fun vs => bmV m o vs) := rfl
theorem ev_isinst {T : Tab} {Φ : Funs} {Γ : Env'} (a t) : evalE T Φ (.isinst a t) Γ = ((evalE T Φ a Γ).bnd fun x => isinstV T x t) := rfl
theorem ev_comp {T : Tab} {Φ : Funs} {Γ : Env'} (elt it cond) : evalE T Φ (.comp elt it cond) Γ = ((evalE T Φ it Γ).bnd fun v => (M.look (iterOf v)).bnd fun p =>
      (M.quiet (compL (chk p.2 p.1) (fun x => (evalC T Φ cond (Γ ++ [some x])).bnd fun b => match b with
        | true => (evalE T Φ elt (Γ ++ [some x])).bnd fun y => .ret (some y)
        | false => .ret none) p.1)).bnd fun ys => if ys.length < lid then M.alloc (.list ys) else .bad) := rfl
theorem ex_expr {T : Tab} {Φ : Funs} {Γ : Env'} {H : Hp} (e) : execS T Φ (.expr e) Γ H = (bndS (evalE T Φ e Γ) Γ (fun _ H => .next Γ H) H) := rfl
theorem ex_assign {T : Tab} {Φ : Funs} {Γ : Env'} {H : Hp} (i e) : execS T Φ (.assign i e) Γ H = (bndS (evalE T Φ e Γ) Γ (fun v H => .next (Γ.set i (some v)) H) H) := rfl
theorem ex_setattr {T : Tab} {Φ : Funs} {Γ : Env'} {H : Hp} (o n e) : execS T Φ (.setattr o n e) Γ H = (bndS (evalE T Φ e Γ) Γ (fun v => bndS (evalE T Φ o Γ) Γ fun o => bndS (setattrV o n v) Γ fun _ H => .next Γ H) H) := rfl
theorem ex_setitem {T : Tab} {Φ : Funs} {Γ : Env'} {H : Hp} (o i e) : execS T Φ (.setitem o i e) Γ H = (bndS (evalE T Φ e Γ) Γ (fun v => bndS (evalE T Φ o Γ) Γ fun o => bndS (evalE T Φ i Γ) Γ fun i => bndS (setitemV o i v) Γ fun _ H => .next Γ H) H) := rfl
theorem ex_ret {T : Tab} {Φ : Funs} {Γ : Env'} {H : Hp} (e) : execS T Φ (.ret e) Γ H = (bndS (evalO T Φ e Γ) Γ (fun v H => .ret v H) H) := rfl
theorem ex_ite {T : Tab} {Φ : Funs} {Γ : Env'} {H : Hp} (c t f) : execS T Φ (.ite c t f) Γ H = (bndS ((evalE T Φ c Γ).bnd truth) Γ (fun b => match b with
    | true => execSs T Φ t Γ
    | false => execSs T Φ f Γ) H) := rfl
theorem ex_each {T : Tab} {Φ : Funs} {Γ : Env'} {H : Hp} (i it body) : execS T Φ (.each i it body) Γ H = (bndS (evalE T Φ it Γ) Γ (fun v => bndS (M.look (iterOf v)) Γ fun p => eachL (chk p.2 p.1) (bind1 i) (execSs T Φ body) p.1 Γ) H) := rfl
theorem ex_raise {T : Tab} {Φ : Funs} {Γ : Env'} {H : Hp} (c m) : execS T Φ (.raise c m) Γ H = (if T.isExc c = true then .exc c Γ H else .bad) := rfl
theorem evs_nil {T : Tab} {Φ : Funs} {Γ : Env'} : evalEs T Φ .nil Γ = .ret [] := rfl
theorem evs_cons {T : Tab} {Φ : Funs} {Γ : Env'} (e es) : evalEs T Φ (.cons e es) Γ = ((evalE T Φ e Γ).bnd fun v => (evalEs T Φ es Γ).bnd fun vs => .ret (v :: vs)) := rfl
theorem exs_cons {T : Tab} {Φ : Funs} {Γ : Env'} {H : Hp} (s ss) : execSs T Φ (.cons s ss) Γ H = thenS (execS T Φ s Γ H) (execSs T Φ ss) := rfl
theorem evc_some {T : Tab} {Φ : Funs} {Γ : Env'} (e) : evalC T Φ (.some e) Γ = (evalE T Φ e Γ).bnd truth := rfl
end
end Mine

-- part MIsi
set_option maxRecDepth 100000
namespace Mine
open PySem PySem.W PySem.Spec PySem.Calls PyProof.Rows
/- what is asked of a class of exceptions for isinstance -/
structure ExcK (K : Frag) (D : Addr) : Prop where
  ga : findIn K (.ref D) "__getattribute__" = some (some (.builtin "BaseException.__getattribute__"))
  gt : findIn K (.ref D) "__getattr__" = some none
  mb : mroIn K D (.type "BaseException") = some true
  hd : hasDictIn K D = true
  fc : findIn K (.ref D) "__class__" = some (some (.builtin "object.__class__"))
  sg : specialIn K (.builtin "object.__class__") "__get__" = some (some (.builtin "getset_descriptor.__get__"))
  tk : takesIn K (.builtin "object.__class__") = some true
  mo : mroIn K D (.type "object") = some true
section
variable {prog : Program} {w : World} {A : Around} {E : Value → Shared → Prop} {s : Shared} {K : Frag} {x D : Addr} {ox : Obj}
theorem exc_ga : Slot "ValueError" "__getattribute__" "BaseException.__getattribute__" := F.excAttr_ValueError.ga
theorem exc_check {M : Model} {nameV : Value} {Q : Unit → Shared → Prop} (k : ExcK K D) (X : K.In s.heap) (I : InstAt s.heap x ox D none) (h : Q () s) :
    wpAny M A (checkBuiltinCall "BaseException.__getattribute__" ⟨[.ref x, nameV], []⟩) Q E s := by
  obtain ⟨hh, g, d, t, os⟩ := s
  have hk : builtinKind "BaseException.__getattribute__" = some .slot := by decide +kernel
  have hsplit : splitId "BaseException.__getattribute__" = some ("BaseException", "__getattribute__") := by decide +kernel
  have ha := F.args_bexc_ga (.ref x) nameV
  have LI : Looks M hh (isInstance (.ref x) (.type "BaseException")) true := (I.type (M := M)).andThen (looks_mroIn (M := M) X k.mb)
  simp only [checkBuiltinCall, hk, hsplit]
  refine wpAny_bind (LI.at ?_)
  repeat (first | exact h | wp_step)
theorem exc_entry {tk : Tok} {Q : Fin → Shared → Prop} (k : ExcK K D) (X : K.In s.heap) (I : InstAt s.heap x ox D none) (h : Q (.done (.ret (.ref D))) s) :
    wpAny (model prog w) A (Builtin.«object.__getattribute__» ⟨[.ref x, .str "__class__" tk], []⟩) Q E s := by
  have hc : (clsIn K D).isSome = true := by obtain ⟨cd, hc, _⟩ := any_some k.hd; rw [hc]; rfl
  have hf : findObj K D none "__class__" = some (.bind (.builtin "getset_descriptor.__get__") (.builtin "object.__class__")) := by
    obtain ⟨cd, hc⟩ := Option.isSome_iff_exists.mp hc
    unfold findObj
    rw [hc, Option.bind_some, k.fc, Option.bind_some]
    simp [k.sg, k.tk]
  have L0 := I.type (M := model prog w)
  have L1 := looks_find (M := model prog w) X I hf
  unfold Builtin.«object.__getattribute__»
  refine wpAny_bind (wpAny_pure (wpAny_bind (wpAny_pure (wpAny_bind (L0.at (wpAny_bind (L1.at ?_)))))))
  show wpAny _ _ (holding [Value.builtin "object.__class__"] (call (.builtin "getset_descriptor.__get__") [.builtin "object.__class__", .ref x, .ref D]) >>= ret) _ _ _
  exact wpAny_bind (wpAny_holding (wpAny_call (class_get (ox := ox) (od := none) X I k.mo (wpAny_pure h))))
theorem excK_class {Q : Option Value → Shared → Prop} (k : ExcK K D) (X : K.In s.heap) (I : InstAt s.heap x ox D none) (h : Q (some (.ref D)) { s with toks := s.toks + 1 }) : wpAny (model prog w) A (getAttr? (.ref x) "__class__") Q E s := by
  obtain ⟨hh, g, d, t, os⟩ := s
  have L0 := I.type (M := model prog w)
  have L1 := looks_findIn (M := model prog w) X k.ga
  have L2 := looks_findIn (M := model prog w) X k.gt
  unfold getAttr? getAttrBy? getAttrBy
  refine wpAny_bind (wpAny_mkText (wpAny_bind (wpAny_attempt (wpAny_holding (wpAny_bind (L0.at (wpAny_bind (L1.at ?_))))))))
  show wpAny _ _ (getAttrByItsOwn _ _ _ _ _ _) _ _ _
  unfold getAttrByItsOwn
  refine wpAny_bind ?_
  show wpAny _ _ (typeLookup (.ref D) "__getattr__") _ _ _
  refine L2.at ?_
  refine wpAny_bind (wpAny_attempt (wpAny_holding ?_))
  show wpAny _ _ (boundAndCalled _ _ _) _ _ _
  unfold boundAndCalled
  refine wpAny_bind (wpAny_of_eq (exc_ga.bind (.ref x)) ?_)
  refine wpAny_call (codeAny_call_builtin exc_ga.plain F.entry_bexc_ga (exc_check k X I (exc_entry k X I ?_)))
  exact handed_on rfl (wpAny_pure h)
set_option tactic.hygienic true in
theorem excK_nested {c : Value} {dep : Int} {tk : Tok} {b : Bool} {Q : Fin → Shared → Prop} (k : ExcK K D) (X : K.In s.heap) (I : InstAt s.heap x ox D none) (hty : Looks (model prog w) s.heap (typeOf c) (.type "type")) (his : Looks (model prog w) s.heap (isType c) true)
    (hself : (Value.ref D == c) = true → b = true) (hsub : Looks (model prog w) s.heap (isSubtype (.ref D) c) b) (h : ∀ tk, Q (.done (.ret (.bool b))) { s with toks := tk }) :
    wpAny (model prog w) A (Builtin.«isinstance.nested» ⟨[.ref x, c, .int dep tk], []⟩) Q E s := by
  obtain ⟨cdD, hcD, _⟩ := any_some k.hd
  have hisD : Looks (model prog w) s.heap (isType (.ref D)) true := by
    unfold clsIn at hcD
    split at hcD
    · rename_i c' d' cd' sl' ho
      intro A' Q' E' s' k q
      unfold isType loadHead
      exact wpAny_bind (wpAny_loadPart (k _ _ (X _ _ ho)) (wpAny_pure q))
    · cases hcD
  obtain ⟨h0, g, d, tt, os⟩ := s
  have L0 := I.type (M := model prog w)
  have LI : Looks (model prog w) h0 (isInstance (.ref x) c) b := L0.andThen hsub
  unfold Builtin.«isinstance.nested»
  refine wpAny_bind (L0.at ?_)
  by_cases q : (Value.ref D == c) = true
  · rw [if_pos q]
    have hb := hself q
    subst hb
    exact wpAny_bind (wpAny_rule (wpAny_bind (wpAny_pure (wpAny_pure (h tt)))))
  rw [if_neg q]
  refine wpAny_bind (hty.at ?_)
  rw [if_pos (by decide)]
  k_delta "plainIsInstance"
  refine wpAny_bind (wpAny_bind (his.at ?_))
  simp only [Bool.not_true, Bool.false_eq_true, if_false]
  refine wpAny_bind (LI.at ?_)
  cases b with
  | true =>
    simp only [if_true]
    first
      | exact wpAny_pure (h tt)
      | exact wpAny_pure (wpAny_pure (h tt))
      | exact wpAny_bind (wpAny_pure (wpAny_pure (h tt)))
  | false =>
    simp only [Bool.false_eq_true, if_false]
    refine wpAny_bind (excK_class k X I ?_)
    refine wpAny_bind (hisD.at ?_)
    simp only [Bool.not_true, Bool.false_eq_true, if_false]
    refine wpAny_bind (wpAny_rule ?_)
    refine hsub.at ?_
    first
      | exact wpAny_pure (h _)
      | exact wpAny_pure (wpAny_pure (h _))
      | exact wpAny_bind (wpAny_pure (wpAny_pure (h _)))
theorem excK_call {c : Value} {b : Bool} {Q : Value → Shared → Prop} (k : ExcK K D) (X : K.In s.heap) (I : InstAt s.heap x ox D none) (hty : ∀ (M : Model) h', K.In h' → Looks M h' (typeOf c) (.type "type")) (his : ∀ (M : Model) h', K.In h' → Looks M h' (isType c) true)
    (hself : (Value.ref D == c) = true → b = true) (hsub : ∀ (M : Model) h', K.In h' → Looks M h' (isSubtype (.ref D) c) b) (h : ∀ tk, Q (.bool b) { s with toks := tk }) : wpAny (model prog w) A (call (.builtin "isinstance") [.ref x, c]) Q E s :=
  call_isinstance (S := fun _ R s => (K.In s.heap ∧ InstAt s.heap x ox D none) ∧ ∀ tk, R (.ok (.ret (.bool b))) { s with toks := tk })
    (fun _ _ _ _ _ hs => isinstance_outer (excK_nested k hs.1.1 hs.1.2 (hty _ _ hs.1.1) (his _ _ hs.1.1) hself (hsub _ _ hs.1.1) hs.2) (by intro q; cases q)) ⟨⟨X, I⟩, h⟩
end
/- a class that isinstance may be asked about -/
noncomputable def clsVal (K : Frag) (v : Value) : Bool := match v with
  | .ref a => (clsIn K a).isSome && typeIn K (.ref a) == some (.type "type")
  | .type T => decide (T = "ValueError")
  | _ => false
set_option tactic.hygienic true in
theorem clsVal_ty {K : Frag} {v : Value} (h : clsVal K v = true) {M : Model} {g : Heap} (X : K.In g) : Looks M g (typeOf v) (.type "type") ∧ Looks M g (isType v) true := by
  cases v with
  | ref a =>
    have h : ((clsIn K a).isSome && typeIn K (.ref a) == some (.type "type")) = true := h
    rw [Bool.and_eq_true] at h
    refine ⟨looks_typeIn X (beq_iff_eq.mp h.2), ?_⟩
    have e := h.1
    unfold clsIn at e
    split at e
    · rename_i c' d' cd' sl' ho
      intro A' Q' E' s' k q
      unfold isType loadHead
      exact wpAny_bind (wpAny_loadPart (k _ _ (X _ _ ho)) (wpAny_pure q))
    · cases e
  | type T =>
    have h : T = "ValueError" := of_decide_eq_true h
    subst h
    exact ⟨Looks.of_pure (by kernel_rfl), Looks.of_pure rfl⟩
  | _ => cases h
end Mine

-- part MRel
namespace Mine
open PySem

noncomputable abbrev Rho := List (Addr × Addr)
noncomputable def Owned (ρ : Rho) (a : Addr) : Prop := ∃ p ∈ ρ, a = p.1 ∨ a = p.2
noncomputable def Grow (ρ : Rho) (h : Heap) (ρ' : Rho) : Prop := ∃ e, ρ' = ρ ++ e ∧ ∀ p ∈ e, h.get? p.1 = none ∧ h.get? p.2 = none
noncomputable def Live (h h' : Heap) : Prop := ∀ b o, h.get? b = some o → ∃ o', h'.get? b = some o'
theorem Live.refl (h : Heap) : Live h h := fun _ o e => ⟨o, e⟩
theorem Live.trans {h h' h'' : Heap} (x : Live h h') (y : Live h' h'') : Live h h'' := fun b o e => let ⟨o', e'⟩ := x b o e; y b o' e'
theorem Live.none {h h' : Heap} (x : Live h h') {a : Addr} (e : h'.get? a = none) : h.get? a = none := by
  cases q : h.get? a with
  | none => rfl
  | some o => obtain ⟨o', e'⟩ := x a o q; rw [e] at e'; cases e'
theorem fresh_none (h : Heap) : h.get? h.objs.size = none := by
  cases q : h.get? h.objs.size with
  | none => rfl
  | some o => exact absurd (Heap.lt_size q) (Nat.lt_irrefl _)
theorem fresh_le {h : Heap} {a : Addr} (z : h.objs.size ≤ a) : h.get? a = none := by
  cases q : h.get? a with
  | none => rfl
  | some o => exact absurd (Heap.lt_size q) (Nat.not_lt.mpr z)
/- a frame's slots may be turned -/
noncomputable def SameUp (o o' : Obj) : Prop := o' = o ∨ ((∃ es n, o.data = .dict es n) ∧ o' = { o with slots := o'.slots })
theorem SameUp.refl (o : Obj) : SameUp o o := .inl rfl
theorem SameUp.trans {o o' o'' : Obj} (x : SameUp o o') (y : SameUp o' o'') : SameUp o o'' := by
  rcases x with rfl | ⟨c, e⟩
  · exact y
  · rcases y with rfl | ⟨_, e'⟩
    · exact .inr ⟨c, e⟩
    · exact .inr ⟨c, by rw [e', e]⟩
theorem SameUp.exact {o o' : Obj} (x : SameUp o o') (n : ∀ es n, o.data ≠ .dict es n) : o' = o := x.elim id fun ⟨⟨es, k, e⟩, _⟩ => absurd e (n es k)
theorem SameUp.data {o o' : Obj} (x : SameUp o o') : o'.data = o.data := by rcases x with rfl | ⟨_, e⟩; rfl; rw [e]
noncomputable def Keep (ρ : Rho) (h h' : Heap) : Prop := ∀ b o, h.get? b = some o → ¬ Owned ρ b → ∃ o', h'.get? b = some o' ∧ SameUp o o'
theorem Keep.exact {ρ : Rho} {h h' : Heap} (k : Keep ρ h h') {b : Addr} {o : Obj} (e : h.get? b = some o) (n : ¬ Owned ρ b) (c : ∀ es n, o.data ≠ .dict es n) : h'.get? b = some o := by
  obtain ⟨o', e', u⟩ := k b o e n
  rw [e', u.exact c]
/- kinds that never change -/
noncomputable def Fixed (o : Obj) : Prop := (o.cls = .type "tuple" ∧ ∃ xs n, o.data = .seq xs n) ∨ (o.cls = .type "range" ∧ ∃ vs, o.data = .fields vs)
noncomputable def IsExcO (o : Obj) (C : Addr) : Prop := o.cls = .ref C ∧ (∃ vs, o.data = .fields vs) ∧ o.dict = none
theorem Fixed.notDict {o : Obj} (f : Fixed o) (es : Array DictEntry) (n : Nat) : o.data ≠ .dict es n := by
  rcases f with ⟨_, xs, k, e⟩ | ⟨_, vs, e⟩ <;> rw [e] <;> exact fun q => nomatch q
theorem IsExcO.notDict {o : Obj} {C : Addr} (f : IsExcO o C) (es : Array DictEntry) (n : Nat) : o.data ≠ .dict es n := by
  obtain ⟨_, ⟨vs, e⟩, _⟩ := f
  rw [e]; exact fun q => nomatch q

theorem Grow.refl (ρ : Rho) (h : Heap) : Grow ρ h ρ := ⟨[], by simp, by simp⟩
theorem Grow.owned {ρ ρ' : Rho} {h : Heap} (g : Grow ρ h ρ') {a : Addr} (o : Owned ρ' a) : Owned ρ a ∨ h.get? a = none := by
  obtain ⟨e, rfl, he⟩ := g
  obtain ⟨p, hp, hpa⟩ := o
  rcases List.mem_append.mp hp with hp | hp
  · exact .inl ⟨p, hp, hpa⟩
  · right
    rcases hpa with rfl | rfl
    · exact (he p hp).1
    · exact (he p hp).2
theorem Grow.sub {ρ ρ' : Rho} {h : Heap} (g : Grow ρ h ρ') {a : Addr} (o : Owned ρ a) : Owned ρ' a := by
  obtain ⟨e, rfl, he⟩ := g
  obtain ⟨p, hp, hpa⟩ := o
  exact ⟨p, List.mem_append.mpr (.inl hp), hpa⟩
theorem Grow.get {ρ ρ' : Rho} {h : Heap} (g : Grow ρ h ρ') {l : Nat} {p : Addr × Addr} (e : ρ[l]? = some p) : ρ'[l]? = some p := by
  obtain ⟨e', rfl, he⟩ := g
  obtain ⟨hl, _⟩ := List.getElem?_eq_some_iff.mp e
  rw [List.getElem?_append_left hl, e]
theorem Grow.not {ρ ρ' : Rho} {h : Heap} (g : Grow ρ h ρ') {a : Addr} {o : Obj} (n : ¬ Owned ρ a) (e : h.get? a = some o) : ¬ Owned ρ' a := fun w => by
  rcases g.owned w with w | w
  · exact n w
  · rw [e] at w; cases w
theorem Grow.trans {ρ ρ' ρ'' : Rho} {h h' : Heap} (x : Grow ρ h ρ') (y : Grow ρ' h' ρ'') (z : Live h h') : Grow ρ h ρ'' := by
  obtain ⟨e1, rfl, h1⟩ := x
  obtain ⟨e2, rfl, h2⟩ := y
  refine ⟨e1 ++ e2, by rw [List.append_assoc], fun p hp => ?_⟩
  rcases List.mem_append.mp hp with hp | hp
  · exact h1 p hp
  · exact ⟨z.none (h2 p hp).1, z.none (h2 p hp).2⟩

/- what values lean on stands -/
structure Step (ρ : Rho) (h : Heap) (ρ' : Rho) (h' : Heap) : Prop where
  more : ∃ e, ρ' = ρ ++ e
  keepT : ∀ b o, h.get? b = some o → Fixed o → ¬ Owned ρ b → h'.get? b = some o ∧ ¬ Owned ρ' b
  keepC : ∀ b o C, h.get? b = some o → IsExcO o C → ¬ Owned ρ b → ∃ o', h'.get? b = some o' ∧ IsExcO o' C ∧ ¬ Owned ρ' b
theorem Step.get {ρ ρ' : Rho} {h h' : Heap} (st : Step ρ h ρ' h') {l : Nat} {p : Addr × Addr} (e : ρ[l]? = some p) : ρ'[l]? = some p := by
  obtain ⟨e', rfl⟩ := st.more
  obtain ⟨hl, _⟩ := List.getElem?_eq_some_iff.mp e
  rw [List.getElem?_append_left hl, e]
/- all that is not owned stands -/
structure Full (ρ : Rho) (h : Heap) (ρ' : Rho) (h' : Heap) : Prop where
  grow : Grow ρ h ρ'
  keep : Keep ρ h h'
  live : Live h h'
theorem Full.step {ρ ρ' : Rho} {h h' : Heap} (x : Full ρ h ρ' h') : Step ρ h ρ' h' :=
  ⟨let ⟨e, h1, _⟩ := x.grow; ⟨e, h1⟩, fun b o e f n => ⟨x.keep.exact e n f.notDict, x.grow.not n e⟩, fun b o C e c n => ⟨o, x.keep.exact e n c.notDict, c, x.grow.not n e⟩⟩
theorem Full.refl (ρ : Rho) (h : Heap) : Full ρ h ρ h := ⟨Grow.refl ρ h, fun _ o e _ => ⟨o, e, .refl o⟩, .refl h⟩
theorem Step.refl (ρ : Rho) (h : Heap) : Step ρ h ρ h := (Full.refl ρ h).step
theorem Full.trans {ρ ρ' ρ'' : Rho} {h h' h'' : Heap} (x : Full ρ h ρ' h') (y : Full ρ' h' ρ'' h'') : Full ρ h ρ'' h'' :=
  ⟨x.grow.trans y.grow x.live, fun b o e n => by
      obtain ⟨o', e', u⟩ := x.keep b o e n
      obtain ⟨o'', e'', u'⟩ := y.keep b o' e' (x.grow.not n e)
      exact ⟨o'', e'', u.trans u'⟩, x.live.trans y.live⟩
/- objects are only added -/
theorem Full.more {ρ : Rho} {h h' : Heap} (k : ∀ b o, h.get? b = some o → h'.get? b = some o) : Full ρ h ρ h' :=
  ⟨Grow.refl ρ h, fun b o e _ => ⟨o, k b o e, .refl o⟩, fun b o e => ⟨o, k b o e⟩⟩
theorem Full.push (ρ : Rho) (h : Heap) (o : Obj) : Full ρ h ρ (h.push o) := Full.more fun _ _ e => Heap.get?_push_of_some _ e
theorem Full.alloc {ρ : Rho} {h h' : Heap} {p : Addr × Addr} (k : ∀ b o, h.get? b = some o → h'.get? b = some o) (hp : h.get? p.1 = none ∧ h.get? p.2 = none) : Full ρ h (ρ ++ [p]) h' :=
  ⟨⟨[p], rfl, fun q hq => by rw [List.mem_singleton.mp hq]; exact hp⟩, fun b o e _ => ⟨o, k b o e, .refl o⟩, fun b o e => ⟨o, k b o e⟩⟩
/- all stands but one object that no value leans on -/
theorem Step.ext {ρ : Rho} {h h' : Heap} {a : Addr} {o : Obj} (e : h.get? a = some o) (hs : Heap.ExtBut a h h') (n1 : ¬ Fixed o) (n2 : ∀ C, ¬ IsExcO o C) : Step ρ h ρ h' :=
  ⟨⟨[], by simp⟩, fun b ob eb f no => ⟨hs b ob (fun q => by subst q; rw [e] at eb; cases eb; exact n1 f) eb, no⟩,
    fun b ob C eb c no => ⟨ob, hs b ob (fun q => by subst q; rw [e] at eb; cases eb; exact n2 C c) eb, c, no⟩⟩
/- one object that no value leans on is turned -/
theorem SameBut.live {h h' : Heap} {a : Addr} {o' : Obj} (hs : Heap.SameBut a h h') (e' : h'.get? a = some o') : Live h h' := fun b o e => by
  by_cases q : b = a
  · subst q; exact ⟨o', e'⟩
  · exact ⟨o, by rw [hs.2 b q]; exact e⟩
theorem Step.but {ρ : Rho} {h h' : Heap} {a : Addr} {o o' : Obj} (e' : h'.get? a = some o') (e : h.get? a = some o) (hs : Heap.SameBut a h h') (n1 : ¬ Fixed o) (n2 : ∀ C, ¬ IsExcO o C) : Step ρ h ρ h' :=
  ⟨⟨[], by simp⟩, fun b ob eb f no => by
      by_cases q : b = a
      · subst q; rw [e] at eb; cases eb; exact absurd f n1
      · rw [hs.2 b q]; exact ⟨eb, no⟩,
    fun b ob C eb c no => by
      by_cases q : b = a
      · subst q; rw [e] at eb; cases eb; exact absurd c (n2 C)
      · exact ⟨ob, by rw [hs.2 b q]; exact eb, c, no⟩⟩
/- an owned object is turned -/
theorem Full.own {ρ : Rho} {h h' : Heap} {a : Addr} {o' : Obj} (o : Owned ρ a) (e' : h'.get? a = some o') (hs : Heap.SameBut a h h') : Full ρ h ρ h' :=
  ⟨Grow.refl ρ h, fun b ob eb n => by
      have q : b ≠ a := fun q => n (q ▸ o)
      exact ⟨ob, by rw [hs.2 b q]; exact eb, .refl ob⟩, SameBut.live hs e'⟩

/- what is static about the text -/
structure Cx where
  prog : Program
  w : World
  T : Tab
  s₀ : Shared
  cls : List Value
  attrs : List Str
  fns : List Addr
noncomputable def Cx.h₀ (cx : Cx) : Heap := cx.s₀.heap

noncomputable def listO (vs : List Value) (n : Nat) : Obj := { cls := .type "list", dict := none, data := .seq vs.toArray n, slots := #[] }
noncomputable def tupO (vs : List Value) (n : Nat) : Obj := { cls := .type "tuple", dict := none, data := .seq vs.toArray n, slots := #[] }

mutual
inductive VR (cx : Cx) (ρ : Rho) (h : Heap) : Val → Value → Prop
  | none : VR cx ρ h .none .none
  | bool (b : Bool) : VR cx ρ h (.bool b) (.bool b)
  | int (i : Int) (t : Tok) : VR cx ρ h (.int i) (.int i t)
  | str (s : Str) (t : Tok) : s.length ≤ sizeLine → VR cx ρ h (.str s) (.str s t)
  | tup {a : Addr} {vs : List Value} {n : Nat} {ms : List Val} : h.get? a = some (tupO vs n) → ¬ Owned ρ a → ms.length ≤ sizeLine → VRs cx ρ h ms vs → VR cx ρ h (.tup ms) (.ref a)
  | loc {l : Nat} {p : Addr × Addr} : ρ[l]? = some p → VR cx ρ h (.loc l) (.ref p.1)
  | script {a : Addr} {vs : List Value} {n : Nat} {ns : List Int} : cx.h₀.get? a = some (listO vs n) → ns.length ≤ sizeLine → VRs cx ρ h (ns.map .int) vs → VR cx ρ h (.script ns) (.ref a)
  | rng {a : Addr} {i : Int} {t u v : Tok} : IsRange h a 0 i 1 t u v → ¬ Owned ρ a → -(2 ^ 62) ≤ i → i < 2 ^ 62 → VR cx ρ h (.rng i) (.ref a)
  | exc {a : Addr} {o : Obj} {c : Nat} {C : Addr} : h.get? a = some o → ¬ Owned ρ a → cx.cls[c]? = some (.ref C) → IsExcO o C → VR cx ρ h (.exc c) (.ref a)
inductive VRs (cx : Cx) (ρ : Rho) (h : Heap) : List Val → List Value → Prop
  | nil : VRs cx ρ h [] []
  | cons {m : Val} {v : Value} {ms : List Val} {vs : List Value} : VR cx ρ h m v → VRs cx ρ h ms vs → VRs cx ρ h (m :: ms) (v :: vs)
end

mutual
theorem VR.step {cx : Cx} {ρ ρ' : Rho} {h h' : Heap} (st : Step ρ h ρ' h') : ∀ {m : Val} {v : Value}, VR cx ρ h m v → VR cx ρ' h' m v
  | _, _, .none => .none
  | _, _, .bool b => .bool b
  | _, _, .int i t => .int i t
  | _, _, .str s t z => .str s t z
  | _, _, .tup e n z r => .tup (st.keepT _ _ e (.inl ⟨rfl, _, _, rfl⟩) n).1 (st.keepT _ _ e (.inl ⟨rfl, _, _, rfl⟩) n).2 z (VRs.step st r)
  | _, _, .loc e => .loc (st.get e)
  | _, _, .script e z r => .script e z (VRs.step st r)
  | _, _, .rng e n z1 z2 => .rng (st.keepT _ _ e (.inr ⟨rfl, _, rfl⟩) n).1 (st.keepT _ _ e (.inr ⟨rfl, _, rfl⟩) n).2 z1 z2
  | _, _, .exc e n k c => by
    obtain ⟨o', e', c', n'⟩ := st.keepC _ _ _ e c n
    exact .exc e' n' k c'
theorem VRs.step {cx : Cx} {ρ ρ' : Rho} {h h' : Heap} (st : Step ρ h ρ' h') : ∀ {ms : List Val} {vs : List Value}, VRs cx ρ h ms vs → VRs cx ρ' h' ms vs
  | _, _, .nil => .nil
  | _, _, .cons a r => .cons (VR.step st a) (VRs.step st r)
end
section
variable {cx : Cx} {ρ : Rho} {h : Heap} {ms ms' : List Val} {vs vs' : List Value} {m : Val} {v : Value}
theorem VRs.length (r : VRs cx ρ h ms vs) : ms.length = vs.length := by
  induction ms generalizing vs with
  | nil => cases r; rfl
  | cons m ms ih => cases r with | cons a r => rw [List.length_cons, List.length_cons, ih r]
theorem VRs.append (r : VRs cx ρ h ms vs) (r' : VRs cx ρ h ms' vs') : VRs cx ρ h (ms ++ ms') (vs ++ vs') := by
  induction ms generalizing vs with
  | nil => cases r; exact r'
  | cons m ms ih => cases r with | cons a r => exact .cons a (ih r)
theorem VRs.get (r : VRs cx ρ h ms vs) {k : Nat} (e : ms[k]? = some m) : ∃ v, vs[k]? = some v ∧ VR cx ρ h m v := by
  induction ms generalizing vs k with
  | nil => simp at e
  | cons m' ms ih =>
    cases r with
    | cons a r =>
      cases k with
      | zero => simp at e; subst e; exact ⟨_, by simp, a⟩
      | succ k => simp at e; obtain ⟨v, hv, hr⟩ := ih r e; exact ⟨v, by simpa using hv, hr⟩
theorem VRs.get' (r : VRs cx ρ h ms vs) {k : Nat} (e : vs[k]? = some v) : ∃ m, ms[k]? = some m ∧ VR cx ρ h m v := by
  induction ms generalizing vs k with
  | nil => cases r; simp at e
  | cons m' ms ih =>
    cases r with
    | cons a r =>
      cases k with
      | zero => simp at e; subst e; exact ⟨_, by simp, a⟩
      | succ k => simp at e; obtain ⟨v, hv, hr⟩ := ih r e; exact ⟨v, by simpa using hv, hr⟩
theorem VRs.one (r : VR cx ρ h m v) : VRs cx ρ h [m] [v] := .cons r .nil
theorem VRs.set (r : VRs cx ρ h ms vs) (k : Nat) (a : VR cx ρ h m v) : VRs cx ρ h (ms.set k m) (vs.set k v) := by
  induction ms generalizing vs k with
  | nil => cases r; exact .nil
  | cons m' ms ih =>
    cases r with
    | cons b r =>
      cases k with
      | zero => exact .cons a r
      | succ k => exact .cons b (ih r k)
theorem VRs.take (r : VRs cx ρ h ms vs) (k : Nat) : VRs cx ρ h (ms.take k) (vs.take k) := by
  induction ms generalizing vs k with
  | nil => cases r; simp; exact .nil
  | cons m' ms ih =>
    cases r with
    | cons b r =>
      cases k with
      | zero => exact .nil
      | succ k => exact .cons b (ih r k)
theorem VRs.drop (r : VRs cx ρ h ms vs) (k : Nat) : VRs cx ρ h (ms.drop k) (vs.drop k) := by
  induction ms generalizing vs k with
  | nil => cases r; simp; exact .nil
  | cons m' ms ih =>
    cases r with
    | cons b r =>
      cases k with
      | zero => exact .cons b r
      | succ k => exact ih r k
theorem VRs.reverse (r : VRs cx ρ h ms vs) : VRs cx ρ h ms.reverse vs.reverse := by
  induction ms generalizing vs with
  | nil => cases r; exact .nil
  | cons m' ms ih =>
    cases r with
    | cons b r =>
      rw [List.reverse_cons, List.reverse_cons]
      exact (ih r).append (.one b)
theorem VRs.eraseIdx (r : VRs cx ρ h ms vs) (k : Nat) : VRs cx ρ h (ms.eraseIdx k) (vs.eraseIdx k) := by
  induction ms generalizing vs k with
  | nil => cases r; simp; exact .nil
  | cons m' ms ih =>
    cases r with
    | cons b r =>
      cases k with
      | zero => exact r
      | succ k => exact .cons b (ih r k)
theorem VRs.replicate (a : VR cx ρ h m v) (n : Nat) : VRs cx ρ h (List.replicate n m) (List.replicate n v) := by
  induction n with
  | zero => exact .nil
  | succ n ih => exact .cons a ih
end

noncomputable abbrev cellKind (cx : Cx) : HeapKind cx.prog cx.w (List Int) := tupleKind (intKind cx.prog cx.w)

inductive DRs (cx : Cx) (ρ : Rho) (h : Heap) : List (Key × Val) → List (List Int × Addr × Value) → Prop
  | nil : DRs cx ρ h [] []
  | cons {k : Key} {v : Val} {b : Addr} {x : Value} {es : List (Key × Val)} {xs : List (List Int × Addr × Value)} :
      VR cx ρ h v x → ¬ Owned ρ b → DRs cx ρ h es xs → DRs cx ρ h ((k, v) :: es) (([k.1, k.2], b, x) :: xs)
theorem DRs.step {cx : Cx} {ρ ρ' : Rho} {h h' : Heap} (st : Step ρ h ρ' h') {es : List (Key × Val)} {xs : List (List Int × Addr × Value)} (hk : ∀ x ∈ xs, (cellKind cx).is h x.1 x.2.1) (r : DRs cx ρ h es xs) : DRs cx ρ' h' es xs := by
  induction r with
  | nil => exact .nil
  | @cons k v b x es xs a n _ ih =>
    refine .cons (a.step st) ?_ (ih fun x hx => hk x (.tail _ hx))
    obtain ⟨o, _, _, ho, hc, hd, _⟩ := hk _ (.head _)
    exact (st.keepT _ _ ho (.inl ⟨hc, _, _, hd⟩) n).2

/- the object that stands for one of the mini heap's -/
inductive HR (cx : Cx) (ρ : Rho) (h : Heap) : HObj → Addr × Addr → Prop
  | list {a : Addr} {vs : List Value} {n : Nat} {xs : List Val} : h.get? a = some (listO vs n) → VRs cx ρ h xs vs → xs.length ≤ sizeLine → HR cx ρ h (.list xs) (a, a)
  | dict {a : Addr} {es : List (Key × Val)} {xs : List (List Int × Addr × Value)} : h.DictOfH (cellKind cx) a xs → DRs cx ρ h es xs → es.length ≤ sizeLine → HR cx ρ h (.dict es) (a, a)
  | inst {a d C : Addr} {o : Obj} {c : Nat} {fs : List (Nat × Val)} {mA : Str → Option Value} : (cx.T.meth c 0).isSome = true → cx.cls[c]? = some (.ref C) → h.get? a = some o → o.cls = .ref C → (∀ c, o.data ≠ .cls c) → o.dict = some d → d ≠ a → h.Ns1 d mA →
      (∀ n v, fs.lookup n = some v → ∃ y x, cx.attrs[n]? = some y ∧ mA y = some x ∧ VR cx ρ h v x) →
      (∀ y, mA y ≠ none → ∃ n v, cx.attrs[n]? = some y ∧ fs.lookup n = some v) →
      HR cx ρ h (.inst c fs) (a, d)
  | hid {a : Addr} {x y : Value} : h.get? a = some (tupO [x, y] 0) → HR cx ρ h .hid (a, a)

structure Rel (cx : Cx) (H : Hp) (ρ : Rho) (s : Shared) : Prop where
  len : H.length = ρ.length
  objs : ∀ (l : Nat) (o : HObj) (p : Addr × Addr), H[l]? = some o → ρ[l]? = some p → HR cx ρ s.heap o p
  apart : ∀ (i j : Nat) (p q : Addr × Addr), i ≠ j → ρ[i]? = some p → ρ[j]? = some q → (p.1 ≠ q.1 ∧ p.1 ≠ q.2) ∧ (p.2 ≠ q.1 ∧ p.2 ≠ q.2)
  new : ∀ p ∈ ρ, cx.h₀.get? p.1 = none ∧ cx.h₀.get? p.2 = none
  base : ∀ b o, cx.h₀.get? b = some o → s.heap.get? b = some o
  sys : ∃ o, cx.h₀.get? sysModules = some o
  rest : ∃ h tk, s = { cx.s₀ with heap := h, toks := tk }

theorem Rel.size {cx : Cx} {H : Hp} {ρ : Rho} {s : Shared} (R : Rel cx H ρ s) : ∀ p ∈ ρ, (∃ o, s.heap.get? p.1 = some o) ∧ ∃ o, s.heap.get? p.2 = some o := by
  intro p hp
  obtain ⟨l, hl, e⟩ := List.mem_iff_getElem.mp hp
  have e' : ρ[l]? = some p := by rw [List.getElem?_eq_getElem hl, e]
  have hH : l < H.length := by rw [R.len]; exact hl
  obtain ⟨ob, hob⟩ : ∃ ob, H[l]? = some ob := ⟨_, List.getElem?_eq_getElem hH⟩
  have := R.objs l ob p hob e'
  clear e e'
  cases this with
  | list q _ _ => exact ⟨⟨_, q⟩, _, q⟩
  | dict q _ _ => obtain ⟨o, _, _, q, _⟩ := q; exact ⟨⟨_, q⟩, _, q⟩
  | inst _ _ q _ _ _ _ n _ _ => obtain ⟨o', _, _, q', _⟩ := n; exact ⟨⟨_, q⟩, _, q'⟩
  | hid q => exact ⟨⟨_, q⟩, _, q⟩
theorem Rel.owned_lt {cx : Cx} {H : Hp} {ρ : Rho} {s : Shared} (R : Rel cx H ρ s) {a : Addr} (o : Owned ρ a) : ∃ o, s.heap.get? a = some o := by
  obtain ⟨p, hp, rfl | rfl⟩ := o
  · exact (R.size p hp).1
  · exact (R.size p hp).2
theorem Rel.owned_new {cx : Cx} {H : Hp} {ρ : Rho} {s : Shared} (R : Rel cx H ρ s) {a : Addr} (o : Owned ρ a) : cx.h₀.get? a = none := by
  obtain ⟨p, hp, rfl | rfl⟩ := o
  · exact (R.new p hp).1
  · exact (R.new p hp).2
theorem Rel.base_not {cx : Cx} {H : Hp} {ρ : Rho} {s : Shared} (R : Rel cx H ρ s) {a : Addr} {o : Obj} (e : cx.h₀.get? a = some o) : ¬ Owned ρ a := fun w => by rw [R.owned_new w] at e; cases e

/- an object's own addresses stand as they stood -/
theorem HR.step {cx : Cx} {ρ ρ' : Rho} {h h' : Heap} {o : HObj} {p : Addr × Addr} (x : HR cx ρ h o p) (st : Step ρ h ρ' h') (k : ∀ b ob, (b = p.1 ∨ b = p.2) → h.get? b = some ob → h'.get? b = some ob) : HR cx ρ' h' o p := by
  cases x with
  | list e r z => exact .list (k _ _ (.inl rfl) e) (r.step st) z
  | @dict a es xs D r z =>
    obtain ⟨ob, es', ep, e, ex, d, el, ks, nd⟩ := D
    have ks' : ∀ x ∈ xs, (cellKind cx).is h' x.1 x.2.1 := by
      intro x hx
      obtain ⟨ok, items, n, hk, hc, hd', rest⟩ := ks x hx
      refine ⟨ok, items, n, (st.keepT _ _ hk (.inl ⟨hc, _, _, hd'⟩) ?_).1, hc, hd', rest⟩
      clear rest el nd z ks d ex e k
      induction r with
      | nil => cases hx
      | cons a n _ ih =>
        cases hx with
        | head => exact n
        | tail _ hx => exact ih hx
    exact .dict ⟨ob, es', ep, k _ _ (.inl rfl) e, ex, d, el, ks', nd⟩ (r.step st ks) z
  | hid e => exact .hid (k _ _ (.inl rfl) e)
  | inst c0 c e k1 k2 k3 k4 n f g =>
    refine .inst c0 c (k _ _ (.inl rfl) e) k1 k2 k3 k4 (n.at fun o e => k _ _ (.inr rfl) e) (fun i v hv => ?_) g
    obtain ⟨y, x, h1, h2, h3⟩ := f i v hv
    exact ⟨y, x, h1, h2, h3.step st⟩

section
variable {cx : Cx} {H : Hp} {ρ : Rho} {s : Shared}
/- nothing owned is turned -/
theorem Rel.same (R : Rel cx H ρ s) {h' : Heap} {tk : Nat} (st : Step ρ s.heap ρ h') (ko : ∀ b o, Owned ρ b → s.heap.get? b = some o → h'.get? b = some o) (kb : ∀ b o, cx.h₀.get? b = some o → h'.get? b = some o) :
    Rel cx H ρ { s with heap := h', toks := tk } := by
  refine ⟨R.len, fun l o p hl hp => ?_, R.apart, R.new, kb, R.sys, ?_⟩
  · refine (R.objs l o p hl hp).step st fun b ob hb e => ko b ob ⟨p, List.mem_of_getElem? hp, hb⟩ e
  · obtain ⟨h, t, rfl⟩ := R.rest
    exact ⟨h', tk, rfl⟩
theorem Rel.toks (R : Rel cx H ρ s) (tk : Nat) : Rel cx H ρ { s with toks := tk } :=
  R.same (h' := s.heap) (Step.refl _ _) (fun _ _ _ e => e) R.base
theorem Rel.more (R : Rel cx H ρ s) {h' : Heap} {tk : Nat} (k : ∀ b o, s.heap.get? b = some o → h'.get? b = some o) : Rel cx H ρ { s with heap := h', toks := tk } :=
  R.same (Full.more k).step (fun b o _ e => k b o e) fun b o e => k b o (R.base b o e)
theorem Rel.push (R : Rel cx H ρ s) (o : Obj) (tk : Nat) : Rel cx H ρ { s with heap := s.heap.push o, toks := tk } :=
  R.more fun _ _ e => Heap.get?_push_of_some _ e
/- an object that is not owned, not the base's, and that no value leans on is turned -/
theorem Rel.but (R : Rel cx H ρ s) {h' : Heap} {tk : Nat} {a : Addr} {o : Obj} {o' : Obj} (e' : h'.get? a = some o') (e : s.heap.get? a = some o) (hs : Heap.SameBut a s.heap h') (n1 : ¬ Fixed o) (n2 : ∀ C, ¬ IsExcO o C) (no : ¬ Owned ρ a) (nb : cx.h₀.get? a = none) :
    Rel cx H ρ { s with heap := h', toks := tk } :=
  R.same (Step.but e' e hs n1 n2) (fun b ob ho eb => by rw [hs.2 b (fun q => no (q ▸ ho))]; exact eb) fun b ob eb => by
    rw [hs.2 b (fun q => by subst q; rw [nb] at eb; cases eb)]; exact R.base b ob eb
theorem Rel.fresh_not (R : Rel cx H ρ s) {a : Addr} (ha : s.heap.get? a = none) : ¬ Owned ρ a := fun w => by obtain ⟨o, e⟩ := R.owned_lt w; rw [ha] at e; cases e
/- a new object -/
theorem Rel.alloc (R : Rel cx H ρ s) {h' : Heap} {tk : Nat} {o : HObj} {p : Addr × Addr} (k : ∀ b o, s.heap.get? b = some o → h'.get? b = some o)
    (hp : s.heap.get? p.1 = none ∧ s.heap.get? p.2 = none) (x : HR cx (ρ ++ [p]) h' o p) : Full ρ s.heap (ρ ++ [p]) h' ∧ Rel cx (H ++ [o]) (ρ ++ [p]) { s with heap := h', toks := tk } := by
  have F : Full ρ s.heap (ρ ++ [p]) h' := ⟨⟨[p], rfl, fun q hq => by rw [List.mem_singleton.mp hq]; exact hp⟩, fun b o e _ => ⟨o, k b o e, .refl o⟩, fun b o e => ⟨o, k b o e⟩⟩
  refine ⟨F, ⟨by rw [List.length_append, List.length_append, R.len]; rfl, fun l ob q hl hq => ?_, fun i j q r hij hi hj => ?_, fun q hq => ?_, fun b o e => k b o (R.base b o e), R.sys, ?_⟩⟩
  · by_cases lt : l < H.length
    · rw [List.getElem?_append_left lt] at hl
      rw [List.getElem?_append_left (by rw [← R.len]; exact lt)] at hq
      exact (R.objs l ob q hl hq).step F.step fun b ob _ e => k b ob e
    · have hl' := (List.getElem?_eq_some_iff.mp hl).1
      have le : l = H.length := by rw [List.length_append] at hl'; simp at hl'; omega
      subst le
      rw [List.getElem?_append_right (Nat.le_refl _)] at hl
      rw [List.getElem?_append_right (by rw [R.len]; exact Nat.le_refl _)] at hq
      rw [R.len] at hq
      simp at hl hq
      subst hl hq
      exact x
  · have old : ∀ {i : Nat} {q : Addr × Addr}, ρ[i]? = some q → (∃ o, s.heap.get? q.1 = some o) ∧ ∃ o, s.heap.get? q.2 = some o := fun h => R.size _ (List.mem_of_getElem? h)
    have ne : ∀ {a b : Addr}, (∃ o, s.heap.get? a = some o) → s.heap.get? b = none → a ≠ b := fun ⟨o, e⟩ n q => by rw [q, n] at e; cases e
    have at' : ∀ {i : Nat} {q : Addr × Addr}, (ρ ++ [p])[i]? = some q → ρ[i]? = some q ∨ (i = ρ.length ∧ q = p) := by
      intro i q h
      by_cases lt : i < ρ.length
      · rw [List.getElem?_append_left lt] at h; exact .inl h
      · have hl' := (List.getElem?_eq_some_iff.mp h).1
        have le : i = ρ.length := by rw [List.length_append] at hl'; simp at hl'; omega
        subst le
        rw [List.getElem?_append_right (Nat.le_refl _)] at h
        simp at h
        exact .inr ⟨rfl, h.symm⟩
    rcases at' hi with hi' | ⟨hi', eq⟩ <;> rcases at' hj with hj' | ⟨hj', er⟩
    · exact R.apart i j q r hij hi' hj'
    · have q := old hi'; rw [er]; exact ⟨⟨ne q.1 hp.1, ne q.1 hp.2⟩, ne q.2 hp.1, ne q.2 hp.2⟩
    · have q := old hj'; rw [eq]; exact ⟨⟨(ne q.1 hp.1).symm, (ne q.2 hp.1).symm⟩, (ne q.1 hp.2).symm, (ne q.2 hp.2).symm⟩
    · exact absurd (hi'.trans hj'.symm) hij
  · rcases List.mem_append.mp hq with hq | hq
    · exact R.new q hq
    · have lv : Live cx.h₀ s.heap := fun b o e => ⟨o, R.base b o e⟩
      rw [List.mem_singleton.mp hq]; exact ⟨lv.none hp.1, lv.none hp.2⟩
  · obtain ⟨h, t, rfl⟩ := R.rest
    exact ⟨h', tk, rfl⟩
/- an object is turned -/
theorem Rel.set (R : Rel cx H ρ s) {l : Nat} {h' : Heap} {tk : Nat} {o : HObj} {p : Addr × Addr} (hl : ρ[l]? = some p) (k : ∀ b o, s.heap.get? b = some o → b ≠ p.1 → b ≠ p.2 → h'.get? b = some o) (z : Live s.heap h')
    (x : HR cx ρ h' o p) : Full ρ s.heap ρ h' ∧ Rel cx (H.set l o) ρ { s with heap := h', toks := tk } := by
  have own : ∀ b, ¬ Owned ρ b → b ≠ p.1 ∧ b ≠ p.2 := fun b n => ⟨fun e => n ⟨p, List.mem_of_getElem? hl, .inl e⟩, fun e => n ⟨p, List.mem_of_getElem? hl, .inr e⟩⟩
  have F : Full ρ s.heap ρ h' := ⟨Grow.refl _ _, fun b ob e n => ⟨ob, k b ob e (own b n).1 (own b n).2, .refl ob⟩, z⟩
  refine ⟨F, ⟨by rw [List.length_set, R.len], fun i ob q hi hq => ?_, R.apart, R.new, fun b ob e => ?_, R.sys, ?_⟩⟩
  · by_cases e : i = l
    · subst e
      rw [hl] at hq; cases hq
      have lt : i < H.length := by rw [R.len]; exact (List.getElem?_eq_some_iff.mp hl).1
      rw [List.getElem?_set_self lt] at hi
      cases hi; exact x
    · rw [List.getElem?_set_ne (fun q => e q.symm)] at hi
      refine (R.objs i ob q hi hq).step F.step fun b ob' hb eb => ?_
      obtain ⟨⟨a1, a2⟩, a3, a4⟩ := R.apart i l q p e hq hl
      rcases hb with rfl | rfl
      · exact k _ _ eb a1 a2
      · exact k _ _ eb a3 a4
  · have n := R.base_not e
    exact k b ob (R.base b ob e) (own b n).1 (own b n).2
  · obtain ⟨h, t, rfl⟩ := R.rest
    exact ⟨h', tk, rfl⟩
end
end Mine

-- part MSim
namespace Mine
open PySem

/-! ## ambient facts -/
structure Amb where
  P : Rho → Heap → Prop
  st : ∀ ρ h ρ' h', P ρ h → Full ρ h ρ' h' → P ρ' h'
noncomputable def Amb.and (P Q : Amb) : Amb := ⟨fun ρ h => P.P ρ h ∧ Q.P ρ h, fun ρ h ρ' h' x f => ⟨P.st _ _ _ _ x.1 f, Q.st _ _ _ _ x.2 f⟩⟩
noncomputable def Amb.tt : Amb := ⟨fun _ _ => True, fun _ _ _ _ _ _ => trivial⟩
noncomputable def Amb.prop (p : Prop) : Amb := ⟨fun _ _ => p, fun _ _ _ _ x _ => x⟩
noncomputable def Amb.vr (cx : Cx) (m : Val) (v : Value) : Amb := ⟨fun ρ h => VR cx ρ h m v, fun _ _ _ _ x f => x.step f.step⟩
noncomputable def Amb.vrs (cx : Cx) (ms : List Val) (vs : List Value) : Amb := ⟨fun ρ h => VRs cx ρ h ms vs, fun _ _ _ _ x f => x.step f.step⟩

/- an exception of the class numbered c that was made behind h -/
structure Flying (cx : Cx) (ρ : Rho) (h h' : Heap) (c : Nat) (e : Value) : Prop where
  is : ∃ (a C : Addr) (vs : Array Value), e = .ref a ∧ cx.cls[c]? = some (.ref C) ∧ h.get? a = none ∧ h'.get? a = some { cls := .ref C, dict := none, data := .fields vs, slots := #[] } ∧ vs.size = 6 ∧ ¬ Owned ρ a ∧
    (vs[1]? = some .none ∨ ∃ (tb : Addr) (tvs : Array Value), vs[1]? = some (.ref tb) ∧ h.get? tb = none ∧ h'.get? tb = some { cls := .type "traceback", dict := none, data := .fields tvs, slots := #[] } ∧ tvs.size = 11 ∧ ¬ Owned ρ tb)
theorem Flying.older {cx : Cx} {ρ : Rho} {h₁ h h' : Heap} {c : Nat} {e : Value} (x : Flying cx ρ h h' c e) (z : Live h₁ h) : Flying cx ρ h₁ h' c e := by
  obtain ⟨a, C, vs, e1, e2, e3, e4, e5, e6, e7⟩ := x.is
  refine ⟨a, C, vs, e1, e2, z.none e3, e4, e5, e6, ?_⟩
  rcases e7 with e7 | ⟨tb, tvs, f1, f2, f3⟩
  · exact .inl e7
  · exact .inr ⟨tb, tvs, f1, z.none f2, f3⟩

noncomputable def SimAt {α β : Type} (cx : Cx) (A : Around) (r : Res β) (t : Sem α) (V : β → α → Amb) (ρ : Rho) (s : Shared) : Prop :=
  match r with
  | .bad => True
  | .ok b H' => wpAny (model cx.prog cx.w) A t (fun a s' => ∃ ρ', Full ρ s.heap ρ' s'.heap ∧ Rel cx H' ρ' s' ∧ (V b a).P ρ' s'.heap) (fun _ _ => False) s
  | .exc c H' => wpAny (model cx.prog cx.w) A t (fun _ _ => False) (fun e s' => ∃ ρ', Full ρ s.heap ρ' s'.heap ∧ Rel cx H' ρ' s' ∧ Flying cx ρ' s.heap s'.heap c e) s

noncomputable def Sim {α β : Type} (cx : Cx) (A : Around) (P : Amb) (t : Sem α) (m : M β) (V : β → α → Amb) : Prop :=
  ∀ (H : Hp) (ρ : Rho) (s : Shared), Rel cx H ρ s → P.P ρ s.heap → SimAt cx A (m H) t V ρ s

section
variable {α β γ δ : Type} {cx : Cx} {A : Around} {P : Amb} {t : Sem α} {m : M β} {V : β → α → Amb}

theorem SimAt.bind {f : α → Sem γ} {g : β → M δ} {W : δ → γ → Amb} {ρ : Rho} {s : Shared} {H : Hp} (x : SimAt cx A (m H) t V ρ s)
    (y : ∀ b a H' ρ' s', m H = .ok b H' → Full ρ s.heap ρ' s'.heap → Rel cx H' ρ' s' → (V b a).P ρ' s'.heap → SimAt cx A (g b H') (f a) W ρ' s') :
    SimAt cx A (m.bnd g H) (t >>= f) W ρ s := by
  cases e : m H with
  | bad => rw [bnd_bad e]; trivial
  | exc c H' =>
    rw [bnd_exc e]
    rw [e] at x
    exact wpAny_bind (wpAny_mono x (fun _ _ q => q.elim) fun _ _ q => q)
  | ok b H' =>
    rw [bnd_ok e]
    rw [e] at x
    have y' := y b
    cases e2 : g b H' with
    | bad => trivial
    | exc c H'' =>
      refine wpAny_bind (wpAny_mono x (fun a s' ⟨ρ', F, R, v⟩ => ?_) fun _ _ q => q.elim)
      have z := y b a H' ρ' s' e F R v
      rw [e2] at z
      exact wpAny_mono z (fun _ _ q => q) fun e s'' ⟨ρ'', F', R', fl⟩ => ⟨ρ'', F.trans F', R', fl.older F.live⟩
    | ok d H'' =>
      refine wpAny_bind (wpAny_mono x (fun a s' ⟨ρ', F, R, v⟩ => ?_) fun _ _ q => q.elim)
      have z := y b a H' ρ' s' e F R v
      rw [e2] at z
      exact wpAny_mono z (fun a' s'' ⟨ρ'', F', R', w⟩ => ⟨ρ'', F.trans F', R', w⟩) fun _ _ q => q.elim

theorem Sim.bind {f : α → Sem γ} {g : β → M δ} {W : δ → γ → Amb} (x : Sim cx A P t m V) (y : ∀ b a, Sim cx A (P.and (V b a)) (f a) (g b) W) : Sim cx A P (t >>= f) (m.bnd g) W :=
  fun H ρ s R p => SimAt.bind (x H ρ s R p) fun b a H' ρ' s' _ F R' v => y b a H' ρ' s' R' ⟨P.st _ _ _ _ p F, v⟩

/- the rest, as a transformer -/
noncomputable def SimK {α β : Type} (cx : Cx) (r : Res β) (K : (α → Shared → Prop) → (Value → Shared → Prop) → Shared → Prop) (V : β → α → Amb) (ρ : Rho) (s : Shared) : Prop :=
  match r with
  | .bad => True
  | .ok b H' => K (fun a s' => ∃ ρ', Full ρ s.heap ρ' s'.heap ∧ Rel cx H' ρ' s' ∧ (V b a).P ρ' s'.heap) (fun _ _ => False) s
  | .exc c H' => K (fun _ _ => False) (fun e s' => ∃ ρ', Full ρ s.heap ρ' s'.heap ∧ Rel cx H' ρ' s' ∧ Flying cx ρ' s.heap s'.heap c e) s
theorem SimK.of {r : Res β} {ρ : Rho} {s : Shared} (x : SimAt cx A r t V ρ s) : SimK cx r (fun Q E s => wpAny (model cx.prog cx.w) A t Q E s) V ρ s := x
noncomputable def MonoK {α : Type} (K : (α → Shared → Prop) → (Value → Shared → Prop) → Shared → Prop) : Prop :=
  ∀ Q E Q' E' s, K Q E s → (∀ a s, Q a s → Q' a s) → (∀ e s, E e s → E' e s) → K Q' E' s
theorem SimAt.bindK {g : β → M δ} {W : δ → γ → Amb} {ρ : Rho} {s : Shared} {H : Hp} {K : α → (γ → Shared → Prop) → (Value → Shared → Prop) → Shared → Prop} {K' : (γ → Shared → Prop) → (Value → Shared → Prop) → Shared → Prop} (x : SimAt cx A (m H) t V ρ s)
    (y : ∀ b a H' ρ' s', m H = .ok b H' → Full ρ s.heap ρ' s'.heap → Rel cx H' ρ' s' → (V b a).P ρ' s'.heap → SimK cx (g b H') (K a) W ρ' s')
    (mk : ∀ a, MonoK (K a))
    (k : ∀ Q E, wpAny (model cx.prog cx.w) A t (fun a s' => K a Q E s') E s → K' Q E s) :
    SimK cx (m.bnd g H) K' W ρ s := by
  cases e : m H with
  | bad => rw [bnd_bad e]; trivial
  | exc c H' =>
    rw [bnd_exc e]
    rw [e] at x
    exact k _ _ (wpAny_mono x (fun _ _ q => q.elim) fun _ _ q => q)
  | ok b H' =>
    rw [bnd_ok e]
    rw [e] at x
    cases e2 : g b H' with
    | bad => trivial
    | exc c H'' =>
      refine k _ _ (wpAny_mono x (fun a s' ⟨ρ', F, R, v⟩ => ?_) fun _ _ q => q.elim)
      have z := y b a H' ρ' s' e F R v
      rw [e2] at z
      exact mk a _ _ _ _ _ z (fun _ _ q => q) fun e s'' ⟨ρ'', F', R', fl⟩ => ⟨ρ'', F.trans F', R', fl.older F.live⟩
    | ok d H'' =>
      refine k _ _ (wpAny_mono x (fun a s' ⟨ρ', F, R, v⟩ => ?_) fun _ _ q => q.elim)
      have z := y b a H' ρ' s' e F R v
      rw [e2] at z
      exact mk a _ _ _ _ _ z (fun a' s'' ⟨ρ'', F', R', w⟩ => ⟨ρ'', F.trans F', R', w⟩) fun _ _ q => q.elim
theorem SimK.lookK {ρ : Rho} {s : Shared} {H : Hp} {f : Hp → Option β} {g : β → M δ} {W : δ → γ → Amb} {K : (γ → Shared → Prop) → (Value → Shared → Prop) → Shared → Prop} (y : ∀ b, f H = some b → SimK cx (g b H) K W ρ s) : SimK cx ((M.look f).bnd g H) K W ρ s := by
  cases e : f H with
  | none => rw [bnd_bad (show M.look f H = .bad by unfold M.look; rw [e])]; trivial
  | some b => rw [bnd_ok (show M.look f H = .ok b H by unfold M.look; rw [e])]; exact y b e
theorem SimK.mono {r : Res β} {ρ : Rho} {s : Shared} {K K' : (α → Shared → Prop) → (Value → Shared → Prop) → Shared → Prop} (x : SimK cx r K V ρ s) (k : ∀ Q E, K Q E s → K' Q E s) : SimK cx r K' V ρ s := by
  cases r with
  | bad => trivial
  | exc c H' => exact k _ _ x
  | ok b H' => exact k _ _ x

theorem Sim.pre {t' : Sem α} (x : Sim cx A P t m V) (k : ∀ (Q : α → Shared → Prop) (E : Value → Shared → Prop) (s : Shared), wpAny (model cx.prog cx.w) A t Q E s → wpAny (model cx.prog cx.w) A t' Q E s) : Sim cx A P t' m V := by
  intro H ρ s R p
  have z := x H ρ s R p
  cases e : m H with
  | bad => trivial
  | exc c H' => rw [e] at z; exact k _ _ _ z
  | ok b H' => rw [e] at z; exact k _ _ _ z
theorem Sim.holding {vs : List Value} (x : Sim cx A P t m V) : Sim cx A P (holding vs t) m V := x.pre fun _ _ _ h => wpAny_holding h
theorem Sim.stand {pos : Pos} {k : Unit → Sem α} (x : Sim cx A P (k ()) m V) : Sim cx A P (standAt pos >>= k) m V := x.pre fun _ _ _ h => wpAny_bind (wpAny_standAt h)
theorem Sim.weak {P' : Amb} (x : Sim cx A P t m V) (k : ∀ ρ h, P'.P ρ h → P.P ρ h) : Sim cx A P' t m V := fun H ρ s R p => x H ρ s R (k _ _ p)
theorem Sim.ret {a : α} {b : β} (k : ∀ ρ h, P.P ρ h → (V b a).P ρ h) : Sim cx A P (pure a) (M.ret b) V :=
  fun H ρ s R p => wpAny_pure ⟨ρ, Full.refl _ _, R, k _ _ p⟩
theorem Sim.bad : Sim cx A P t (M.bad : M β) V := fun _ _ _ _ _ => trivial
theorem SimAt.post {W : β → α → Amb} {ρ : Rho} {s : Shared} {r : Res β} (x : SimAt cx A r t V ρ s) (k : ∀ b a ρ h, (V b a).P ρ h → (W b a).P ρ h) : SimAt cx A r t W ρ s := by
  cases r with
  | bad => trivial
  | exc c H' => exact x
  | ok b H' => exact wpAny_mono x (fun a s' ⟨ρ', F, R, v⟩ => ⟨ρ', F, R, k _ _ _ _ v⟩) fun _ _ q => q
theorem Sim.post {W : β → α → Amb} (x : Sim cx A P t m V) (k : ∀ b a ρ h, (V b a).P ρ h → (W b a).P ρ h) : Sim cx A P t m W := fun H ρ s R p => (x H ρ s R p).post k
/- a step that only looks; the answer is a value -/
theorem Sim.look {f : Hp → Option β} (k : ∀ (H : Hp) (ρ : Rho) (s : Shared) (b : β), Rel cx H ρ s → P.P ρ s.heap → f H = some b →
    ∀ (Q : α → Shared → Prop) (E : Value → Shared → Prop), (∀ a tk, (V b a).P ρ s.heap → Q a { s with toks := tk }) → wpAny (model cx.prog cx.w) A t Q E s) : Sim cx A P t (M.look f) V := by
  intro H ρ s R p
  show SimAt cx A (match f H with | some a => Res.ok a H | none => Res.bad) t V ρ s
  cases e : f H with
  | none => trivial
  | some b => exact k H ρ s b R p e _ _ fun a tk v => ⟨ρ, Full.refl _ _, R.toks tk, v⟩
end

/-! ## the frame -/
noncomputable def VarIs (env : Env) (h : Heap) (y : Str) (v : Value) : Prop :=
  (env.kindOf y = some .local ∧ ∃ m, h.Ns env.locals m ∧ m y = some v) ∨
  ((env.kindOf y = some .cell ∨ env.kindOf y = some .free) ∧ ∃ c, env.cells.lookup y = some c ∧ h.IsCell c (some v))
noncomputable def KindOk : NameKind → Option NameKind → Prop
  | .local, k => k = some .local
  | .cell, k => k = some .cell
  | .free, k => k = some .free ∨ k = some .cell
  | .globalImplicit, k => k = some .globalImplicit
  | _, _ => True

/- what stands of a frame whatever its names hold -/
structure EnvSt (cx : Cx) (env : Env) (sc : Scope) (ρ : Rho) (h : Heap) : Prop where
  fn : env.scope.kind = .function
  glob : env.globals = mainGlobals
  blt : env.builtins = builtinsNs
  kinds : ∀ y k, sc.names.lookup y = some k → KindOk k (env.kindOf y)
  loc : ∃ m, h.Ns env.locals m
  locN : ¬ Owned ρ env.locals
  locB : cx.h₀.get? env.locals = none
  cells : ∀ y c, env.cells.lookup y = some c → (∃ v, h.IsCell c v) ∧ ¬ Owned ρ c ∧ cx.h₀.get? c = none
  hasCell : ∀ y, sc.names.lookup y = some .cell ∨ sc.names.lookup y = some .free → ∃ c, env.cells.lookup y = some c
  apart : ∀ y z c, env.cells.lookup y = some c → env.cells.lookup z = some c → y = z
structure EnvOk (cx : Cx) (env : Env) (sc : Scope) (ns : List (Option Str)) (Γ : Env') (ρ : Rho) (h : Heap) : Prop where
  st : EnvSt cx env sc ρ h
  len : Γ.length = ns.length
  vals : ∀ (i : Nat) (y : Str) (mv : Val), ns[i]? = some (some y) → Γ[i]? = some (some mv) → ∃ v, VarIs env h y v ∧ VR cx ρ h mv v

theorem Heap_Ns_keep {h h' : Heap} {a : Addr} {m : Str → Option Value} (n : h.Ns a m) (k : ∀ o, h.get? a = some o → ∃ o', h'.get? a = some o' ∧ o'.data = o.data) : h'.Ns a m := by
  obtain ⟨o, es, ep, e, d, r⟩ := n
  obtain ⟨o', e', d'⟩ := k o e
  exact ⟨o', es, ep, e', d'.trans d, r⟩
theorem Full.data {ρ ρ' : Rho} {h h' : Heap} (F : Full ρ h ρ' h') {a : Addr} (n : ¬ Owned ρ a) : ∀ o, h.get? a = some o → ∃ o', h'.get? a = some o' ∧ o'.data = o.data := fun o e => by
  obtain ⟨o', e', u⟩ := F.keep a o e n
  exact ⟨o', e', u.data⟩
theorem IsCell_keep {h h' : Heap} {c : Addr} {v : Option Value} (x : h.IsCell c v) (k : ∀ o, h.get? c = some o → ∃ o', h'.get? c = some o' ∧ o'.data = o.data) : h'.IsCell c v := by
  obtain ⟨o, e, d⟩ := x
  obtain ⟨o', e', d'⟩ := k o e
  exact ⟨o', e', d'.trans d⟩
theorem EnvSt.full {cx : Cx} {env : Env} {sc : Scope} {ρ ρ' : Rho} {h h' : Heap} (x : EnvSt cx env sc ρ h) (F : Full ρ h ρ' h') : EnvSt cx env sc ρ' h' := by
  obtain ⟨m, hm⟩ := x.loc
  obtain ⟨o, es, ep, e, d, r⟩ := id hm
  refine ⟨x.fn, x.glob, x.blt, x.kinds, ⟨m, Heap_Ns_keep hm (F.data x.locN)⟩, F.grow.not x.locN e, x.locB, fun y c hc => ?_, x.hasCell, x.apart⟩
  obtain ⟨⟨v, hv⟩, n, b⟩ := x.cells y c hc
  obtain ⟨o, e, _⟩ := id hv
  exact ⟨⟨v, IsCell_keep hv (F.data n)⟩, F.grow.not n e, b⟩
theorem VarIs.full {cx : Cx} {env : Env} {sc : Scope} {ρ ρ' : Rho} {h h' : Heap} {y : Str} {v : Value} (x : EnvSt cx env sc ρ h) (F : Full ρ h ρ' h') (q : VarIs env h y v) : VarIs env h' y v := by
  rcases q with ⟨k, m, hm, e⟩ | ⟨k, c, hc, e⟩
  · exact .inl ⟨k, m, Heap_Ns_keep hm (F.data x.locN), e⟩
  · exact .inr ⟨k, c, hc, IsCell_keep e (F.data (x.cells y c hc).2.1)⟩
theorem EnvOk.full {cx : Cx} {env : Env} {sc : Scope} {ns : List (Option Str)} {Γ : Env'} {ρ ρ' : Rho} {h h' : Heap} (x : EnvOk cx env sc ns Γ ρ h) (F : Full ρ h ρ' h') : EnvOk cx env sc ns Γ ρ' h' :=
  ⟨x.st.full F, x.len, fun i y mv hi hm => by
    obtain ⟨v, hv, r⟩ := x.vals i y mv hi hm
    exact ⟨v, hv.full x.st F, r.step F.step⟩⟩
noncomputable def Amb.env (cx : Cx) (env : Env) (sc : Scope) (ns : List (Option Str)) (Γ : Env') : Amb := ⟨fun ρ h => EnvOk cx env sc ns Γ ρ h, fun _ _ _ _ x F => x.full F⟩

/- the frames on the stack, for the notes that an exception makes -/
noncomputable def FramesOk (cx : Cx) (l : List Env) (ρ : Rho) (h : Heap) : Prop :=
  ∀ env ∈ l, env.scope.kind ≠ .module ∧ ∃ L o, env.frame = some L ∧ cx.h₀.get? L = none ∧ h.get? L = some o ∧ (∃ es n, o.data = .dict es n) ∧ ¬ Owned ρ L
theorem FramesOk.full {cx : Cx} {l : List Env} {ρ ρ' : Rho} {h h' : Heap} (x : FramesOk cx l ρ h) (F : Full ρ h ρ' h') : FramesOk cx l ρ' h' := fun env he => by
  obtain ⟨k, L, o, h1, h2, h3, h5, h6⟩ := x env he
  obtain ⟨o', e', u⟩ := F.keep L o h3 h6
  exact ⟨k, L, o', h1, h2, e', by rw [u.data]; exact h5, F.grow.not h6 h3⟩
noncomputable def Amb.frames (cx : Cx) (l : List Env) : Amb := ⟨fun ρ h => FramesOk cx l ρ h, fun _ _ _ _ x F => x.full F⟩

/- room for calls d deep -/
structure Room (A : Around) (d : Nat) : Prop where
  hh : A.handled = none
  depth : A.depth + 5 * d + 150 < recursionLimit
  units : A.units + 20 * d + 100 < cLine
/- room for a call -/
structure RoomF (A : Around) (d : Nat) : Prop where
  hh : A.handled = none
  depth : A.depth + 5 * d + 147 < recursionLimit
  units : A.units + 20 * d + 90 < cLine
/- room for a call, whatever is handled -/
structure RoomQ (A : Around) (d : Nat) : Prop where
  depth : A.depth + 5 * d + 147 < recursionLimit
  units : A.units + 20 * d + 90 < cLine
theorem RoomF.q {A : Around} {d : Nat} (r : RoomF A d) : RoomQ A d := ⟨r.depth, r.units⟩
theorem Room.toF {A : Around} {d : Nat} (r : Room A d) : RoomF A d := ⟨r.hh, by have := r.depth; omega, by have := r.units; omega⟩
theorem Room.toF1 {A : Around} {d : Nat} (r : Room A d) : RoomF A.in1 d := ⟨r.hh, by have := r.depth; simp only [Around.in1_depth]; omega, by have := r.units; simp only [Around.in1_units]; omega⟩
theorem Room.in1 {A : Around} {d : Nat} (r : Room A (d + 1)) : Room A.in1 d := ⟨r.hh, by have := r.depth; simp only [Around.in1_depth]; omega, by have := r.units; simp only [Around.in1_units]; omega⟩

end Mine

-- part MCk
namespace Mine
open PySem

/- the built-ins that are called by their names -/
noncomputable def bltTab : List (Str × Value) := [("len", .builtin "len"), ("range", .type "range"), ("isinstance", .builtin "isinstance"), ("list", .type "list"), ("tuple", .type "tuple"), ("int", .type "int"), ("bool", .type "bool"), ("str", .type "str"),
  ("zip", .type "zip"), ("enumerate", .type "enumerate"), ("sorted", .builtin "sorted"), ("min", .builtin "min"), ("max", .builtin "max"), ("abs", .builtin "abs"), ("set", .type "set")]
structure Names where
  funs : List (Str × Nat)
  clss : List (Str × Nat)
  globs : List (Str × Nat)
  attrs : List (Str × Nat)
  meths : List (Str × Nat)

noncomputable def isGlob (sc : Scope) (x : Str) : Bool :=
  (match sc.names.lookup x with
   | some .globalImplicit => true
   | _ => false) && !(x == ("__debug__" : Str))
noncomputable def isVar (sc : Scope) (ns : List (Option Str)) (i : Nat) (x : Str) : Bool :=
  (match sc.names.lookup x with
   | some .local => true
   | some .cell => true
   | some .free => true
   | _ => false) && (match ns[i]? with
   | some (some y) => decide (y = x)
   | _ => false) && !(x == ("__debug__" : Str)) && !(x == ("__classdict__" : Str))
/- a name that may be stored -/
noncomputable def isOwn (sc : Scope) (ns : List (Option Str)) (i : Nat) (x : Str) : Bool :=
  (match sc.names.lookup x with
   | some .local => true
   | some .cell => true
   | _ => false) && (match ns[i]? with
   | some (some y) => decide (y = x)
   | _ => false)
noncomputable def hasNo (l : List (Str × Nat)) (x : Str) (k : Nat) : Bool :=
  match l.lookup x with
  | some j => decide (j = k)
  | none => false

noncomputable def bOp : BOp → Operator
  | .add => .Add
  | .sub => .Sub
  | .mul => .Mult
  | .fdiv => .FloorDiv
  | .mod => .Mod
noncomputable def opOk (b : BOp) (o : Operator) : Bool := decide (bOp b = o)
noncomputable def cmOp : COp → CmpOp
  | .eq => .Eq
  | .ne => .NotEq
  | .lt => .Lt
  | .le => .LtE
  | .gt => .Gt
  | .is => .Is
noncomputable def notSuper : Expr → Bool
  | .Call (.Name x _) _ _ _ => !(x == ("super" : Str))
  | _ => true
noncomputable def notSet : Expr → Bool
  | .Set .. => false
  | _ => true
/- the built-in function's name and how many arguments it takes -/
noncomputable def bfName : BF → Str × Nat
  | .len => ("len", 1)
  | .range => ("range", 1)
  | .list => ("list", 1)
  | .tuple => ("tuple", 1)
  | .abs => ("abs", 1)
  | .sortedSet => ("", 0)
noncomputable def bmName : BM → Str × Nat
  | .append => ("append", 1)
  | .rstrip => ("rstrip", 0)
noncomputable def tyName : Ty → Str
  | .int => "int"
  | .bool => "bool"
  | .str => "str"
  | .tuple => "tuple"
  | .list => "list"
  | .cls _ => ""
/- what a comprehension's names are, seen from within -/
noncomputable def inner (csc : Scope) (ns : List (Option Str)) : List (Option Str) :=
  ns.map fun o => match o with
    | some y => (match csc.names.lookup y with
      | some .free => some y
      | _ => none)
    | none => none
noncomputable def compOk (sc csc : Scope) (x : Str) : Bool :=
  (match csc.kind with
   | .function => true
   | _ => false) &&
  (match csc.names.lookup x with
   | some .local => true
   | some .cell => true
   | _ => false) &&
  csc.names.all fun p =>
    (match p.2 with
     | .local => (match csc.names.lookup p.1 with | some .local => true | _ => false)
     | .cell => (match csc.names.lookup p.1 with | some .cell => true | _ => false)
     | .free => (match csc.names.lookup p.1 with | some .free => true | _ => false) && (match sc.names.lookup p.1 with
       | some .cell => true
       | some .free => true
       | _ => false)
     | .globalImplicit => (match csc.names.lookup p.1 with | some .globalImplicit => true | _ => false)
     | _ => false)

/-! forms of expressions, each with what it says -/
noncomputable def dConst (e : Expr) : Option { p : Const × Nat × Pos // e = .Constant p.1 p.2.1 p.2.2 } := match e with
  | .Constant c k pos => some ⟨(c, k, pos), rfl⟩
  | _ => none
noncomputable def dName (e : Expr) : Option { p : Str × Pos // e = .Name p.1 p.2 } := match e with
  | .Name x pos => some ⟨(x, pos), rfl⟩
  | _ => none
noncomputable def dBin (e : Expr) : Option { p : Expr × Operator × Expr × Pos // e = .BinOp p.1 p.2.1 p.2.2.1 p.2.2.2 } := match e with
  | .BinOp l o r pos => some ⟨(l, o, r, pos), rfl⟩
  | _ => none
noncomputable def dUn (e : Expr) : Option { p : UnaryOp × Expr × Pos // e = .UnaryOp p.1 p.2.1 p.2.2 } := match e with
  | .UnaryOp o x pos => some ⟨(o, x, pos), rfl⟩
  | _ => none
noncomputable def dBool (e : Expr) : Option { p : BoolOp × List Expr × Pos // e = .BoolOp p.1 p.2.1 p.2.2 } := match e with
  | .BoolOp o xs pos => some ⟨(o, xs, pos), rfl⟩
  | _ => none
noncomputable def dCmp (e : Expr) : Option { p : Expr × List CmpOp × List Expr × Pos // e = .Compare p.1 p.2.1 p.2.2.1 p.2.2.2 } := match e with
  | .Compare l os rs pos => some ⟨(l, os, rs, pos), rfl⟩
  | _ => none
noncomputable def dSub (e : Expr) : Option { p : Expr × Expr × Pos // e = .Subscript p.1 p.2.1 p.2.2 } := match e with
  | .Subscript v s pos => some ⟨(v, s, pos), rfl⟩
  | _ => none
noncomputable def dSlice (e : Expr) : Option { p : Option Expr × Option Expr × Option Expr × Pos // e = .Slice p.1 p.2.1 p.2.2.1 p.2.2.2 } := match e with
  | .Slice l u t pos => some ⟨(l, u, t, pos), rfl⟩
  | _ => none
noncomputable def dTup (e : Expr) : Option { p : List Expr × Nat × Pos // e = .Tuple p.1 p.2.1 p.2.2 } := match e with
  | .Tuple xs k pos => some ⟨(xs, k, pos), rfl⟩
  | _ => none
noncomputable def dList (e : Expr) : Option { p : List Expr × Pos // e = .List p.1 p.2 } := match e with
  | .List xs pos => some ⟨(xs, pos), rfl⟩
  | _ => none
noncomputable def dDict (e : Expr) : Option { p : List (Option Expr) × List Expr × Pos // e = .Dict p.1 p.2.1 p.2.2 } := match e with
  | .Dict ks vs pos => some ⟨(ks, vs, pos), rfl⟩
  | _ => none
noncomputable def dAttr (e : Expr) : Option { p : Expr × Str × Pos // e = .Attribute p.1 p.2.1 p.2.2 } := match e with
  | .Attribute v y pos => some ⟨(v, y, pos), rfl⟩
  | _ => none
noncomputable def dCall (e : Expr) : Option { p : Expr × List Expr × List Keyword × Pos // e = .Call p.1 p.2.1 p.2.2.1 p.2.2.2 } := match e with
  | .Call f xs ks pos => some ⟨(f, xs, ks, pos), rfl⟩
  | _ => none
noncomputable def dComp (e : Expr) : Option { p : Expr × List Comprehension × Scope × Pos // e = .ListComp p.1 p.2.1 p.2.2.1 p.2.2.2 } := match e with
  | .ListComp el gs csc pos => some ⟨(el, gs, csc, pos), rfl⟩
  | _ => none
noncomputable def cNone (c : Const) : Option { _p : Unit // c = .none } := match c with
  | .none => some ⟨(), rfl⟩
  | _ => none
noncomputable def cBool (c : Const) : Option { b : Bool // c = .bool b } := match c with
  | .bool b => some ⟨b, rfl⟩
  | _ => none
noncomputable def cInt (c : Const) : Option { b : Int // c = .int b } := match c with
  | .int b => some ⟨b, rfl⟩
  | _ => none
noncomputable def cStr (c : Const) : Option { b : Str // c = .str b } := match c with
  | .str b => some ⟨b, rfl⟩
  | _ => none
noncomputable def isUSub (o : UnaryOp) : Option { _p : Unit // o = .USub } := match o with
  | .USub => some ⟨(), rfl⟩
  | _ => none
noncomputable def isNotOp (o : UnaryOp) : Option { _p : Unit // o = .Not } := match o with
  | .Not => some ⟨(), rfl⟩
  | _ => none
noncomputable def isAnd (o : BoolOp) : Option { _p : Unit // o = .And } := match o with
  | .And => some ⟨(), rfl⟩
  | _ => none
noncomputable def isOr (o : BoolOp) : Option { _p : Unit // o = .Or } := match o with
  | .Or => some ⟨(), rfl⟩
  | _ => none
noncomputable def one {α : Type} (xs : List α) : Option { x : α // xs = [x] } := match xs with
  | [x] => some ⟨x, rfl⟩
  | _ => none
noncomputable def two {α : Type} (xs : List α) : Option { p : α × α // xs = [p.1, p.2] } := match xs with
  | [x, y] => some ⟨(x, y), rfl⟩
  | _ => none
noncomputable def more (xs : List Expr) : Option { p : Expr × Expr × List Expr // xs = p.1 :: p.2.1 :: p.2.2 } := match xs with
  | x :: y :: r => some ⟨(x, y, r), rfl⟩
  | _ => none
noncomputable def nilL {α : Type} (xs : List α) : Option { _p : Unit // xs = [] } := match xs with
  | [] => some ⟨(), rfl⟩
  | _ :: _ => none
noncomputable def noneO {α : Type} (o : Option α) : Option { _p : Unit // o = none } := match o with
  | none => some ⟨(), rfl⟩
  | some _ => none
/- a call of a name, no keywords -/
noncomputable def dCallN (e : Expr) : Option { p : Str × Pos × List Expr × Pos // e = .Call (.Name p.1 p.2.1) p.2.2.1 [] p.2.2.2 } := match dCall e with
  | some ⟨(f, xs, ks, pos), h⟩ => (match nilL ks, dName f with
    | some ⟨_, hk⟩, some ⟨(x, np), hn⟩ => some ⟨(x, np, xs, pos), h.trans (by dsimp only at hk hn ⊢; rw [hk, hn])⟩
    | _, _ => none)
  | none => none
/- a call of an attribute, no keywords, on one line -/
noncomputable def dCallA (e : Expr) : Option { p : Expr × Str × Pos × List Expr × Pos // e = .Call (.Attribute p.1 p.2.1 p.2.2.1) p.2.2.2.1 [] p.2.2.2.2 ∧ (p.2.2.1.endLine == p.2.2.2.2.line) = true } := match dCall e with
  | some ⟨(f, xs, ks, pos), h⟩ => (match nilL ks, dAttr f with
    | some ⟨_, hk⟩, some ⟨(o, y, apos), hn⟩ => if hl : (apos.endLine == pos.line) = true then some ⟨(o, y, apos, xs, pos), h.trans (by dsimp only at hk hn ⊢; rw [hk, hn]), hl⟩ else none
    | _, _ => none)
  | none => none
noncomputable def gen1 (gs : List Comprehension) : Option { p : Str × Pos × Expr × List Expr // gs = [⟨.Name p.1 p.2.1, p.2.2.1, p.2.2.2, 0⟩] } := match one gs with
  | some ⟨⟨t, i, ifs, as⟩, h⟩ => (match dName t with
    | some ⟨(x, px), hn⟩ => if ha : as = 0 then some ⟨(x, px, i, ifs), h.trans (by dsimp only at hn ⊢; rw [hn, ha])⟩ else none
    | none => none)
  | none => none
noncomputable def tyOk (N : Names) (y : Str) : Ty → Bool
  | .cls c => hasNo N.clss y c
  | t => decide (tyName t = y)

/- what is there, looked at -/
noncomputable def seen {α : Type} (o : Option α) (f : α → Bool) : Bool := match o with
  | some a => f a
  | none => false
theorem seen_of {α : Type} {o : Option α} {f : α → Bool} (h : seen o f = true) : ∃ a, f a = true := by
  cases o with
  | none => cases h
  | some a => exact ⟨a, h⟩
theorem said {P : Prop} {o : Option { _p : Unit // P }} (h : o.isSome = true) : P := by
  cases o with
  | none => cases h
  | some a => exact a.2
theorem an1 {a b : Bool} (h : (a && b) = true) : a = true := by
  cases a with
  | true => rfl
  | false => cases h
theorem an2 {a b : Bool} (h : (a && b) = true) : b = true := by
  cases a with
  | true => exact h
  | false => cases h
mutual
noncomputable def ck (N : Names) (sc : Scope) (ns : List (Option Str)) (m : ME) (e : Expr) : Bool :=
  match m with
  | .none => (seen (dConst e) fun p1 => (cNone p1.1.1).isSome)
  | .bool b => (seen (dConst e) fun p1 => (seen (cBool p1.1.1) fun p2 => b == p2.1))
  | .int i => (seen (dConst e) fun p1 => (seen (cInt p1.1.1) fun p2 => decide (i = p2.1)))
  | .str s => (seen (dConst e) fun p1 => (seen (cStr p1.1.1) fun p2 => decide (s = p2.1) && decide (s.length ≤ 1000)))
  | .glob k => (seen (dName e) fun p1 => isGlob sc p1.1.1 && hasNo N.globs p1.1.1 k)
  | .var i => (seen (dName e) fun p1 => isVar sc ns i p1.1.1)
  | .bin op a b => (seen (dBin e) fun p1 => opOk op p1.1.2.1 && ck N sc ns a p1.1.1 && ck N sc ns b p1.1.2.2.1)
  | .neg a => (seen (dUn e) fun p1 => (isUSub p1.1.1).isSome && ck N sc ns a p1.1.2.1)
  | .not a => (seen (dUn e) fun p1 => (isNotOp p1.1.1).isSome && ck N sc ns a p1.1.2.1)
  | .and a b => (seen (dBool e) fun p1 => (isAnd p1.1.1).isSome && (seen (more p1.1.2.1) fun p2 => ck N sc ns a p2.1.1 && (match p2.1.2.2 with
        | [] => ck N sc ns b p2.1.2.1
        | _ :: _ => ck N sc ns b (.BoolOp .And (p2.1.2.1 :: p2.1.2.2) p1.1.2.2))))
  | .or a b => (seen (dBool e) fun p1 => (isOr p1.1.1).isSome && (seen (more p1.1.2.1) fun p2 => ck N sc ns a p2.1.1 && (match p2.1.2.2 with
        | [] => ck N sc ns b p2.1.2.1
        | _ :: _ => ck N sc ns b (.BoolOp .Or (p2.1.2.1 :: p2.1.2.2) p1.1.2.2))))
  | .cmp op a b => (seen (dCmp e) fun p1 => decide (p1.1.2.1 = [cmOp op]) && (seen (one p1.1.2.2.1) fun p2 => ck N sc ns a p1.1.1 && ck N sc ns b p2.1 && notSet p2.1))
  | .cmp2 op1 op2 a b c => (seen (dCmp e) fun p1 => decide (p1.1.2.1 = [cmOp op1, cmOp op2]) && (seen (two p1.1.2.2.1) fun p2 => ck N sc ns a p1.1.1 && ck N sc ns b p2.1.1 && ck N sc ns c p2.1.2 && notSet p2.1.2))
  | .sub a i => (seen (dSub e) fun p1 => ck N sc ns a p1.1.1 && ck N sc ns i p1.1.2.1)
  | .slice a lo hi => (seen (dSub e) fun p1 => (seen (dSlice p1.1.2.1) fun p2 => ck N sc ns a p1.1.1 && ckO N sc ns lo p2.1.1 && ckO N sc ns hi p2.1.2.1 && (noneO p2.1.2.2.1).isSome))
  | .list es => (seen (dList e) fun p1 => ckEs N sc ns es p1.1.1 && decide (p1.1.1.length ≤ 1000))
  | .dict => (seen (dDict e) fun p1 => p1.1.1.isEmpty && p1.1.2.1.isEmpty)
  | .call f es => (seen (dCallN e) fun p1 => isGlob sc p1.1.1 && hasNo N.funs p1.1.1 f && ckEs N sc ns es p1.1.2.2.1 && decide (p1.1.2.2.1.length ≤ 20))
  | .new c es => (seen (dCallN e) fun p1 => isGlob sc p1.1.1 && hasNo N.clss p1.1.1 c && ckEs N sc ns es p1.1.2.2.1 && decide (p1.1.2.2.1.length ≤ 20))
  | .bf f es => (seen (dCallN e) fun p1 => isGlob sc p1.1.1 && decide ((bfName f).1 = p1.1.1) && decide ((bfName f).2 = p1.1.2.2.1.length) && ckEs N sc ns es p1.1.2.2.1)
  | .bm a m es => (seen (dCallA e) fun p1 => ck N sc ns a p1.1.1 && decide ((bmName m).1 = p1.1.2.1) && decide ((bmName m).2 = p1.1.2.2.2.1.length) && ckEs N sc ns es p1.1.2.2.2.1 && notSuper p1.1.1)
  | .isinst a t => (seen (dCallN e) fun p1 => (seen (two p1.1.2.2.1) fun p2 => (seen (dName p2.1.2) fun p3 => isGlob sc p1.1.1 && decide (p1.1.1 = ("isinstance" : Str)) && isGlob sc p3.1.1 && ck N sc ns a p2.1.1 && tyOk N p3.1.1 t)))
  | .comp elt it cond => (seen (dComp e) fun p1 => (seen (gen1 p1.1.2.1) fun p2 => ck N sc ns it p2.1.2.2.1 && notSet p2.1.2.2.1 && compOk sc p1.1.2.2.1 p2.1.1 && ck N p1.1.2.2.1 (inner p1.1.2.2.1 ns ++ [some p2.1.1]) elt p1.1.1 && ckC N p1.1.2.2.1 (inner p1.1.2.2.1 ns ++ [some p2.1.1]) cond p2.1.2.2.2))
noncomputable def ckO (N : Names) (sc : Scope) (ns : List (Option Str)) : MEo → Option Expr → Bool
  | .none, none => true
  | .some e, some x => ck N sc ns e x
  | _, _ => false
noncomputable def ckC (N : Names) (sc : Scope) (ns : List (Option Str)) : MEo → List Expr → Bool
  | .none, [] => true
  | .some e, [x] => ck N sc ns e x
  | _, _ => false
noncomputable def ckEs (N : Names) (sc : Scope) (ns : List (Option Str)) : MEs → List Expr → Bool
  | .nil, [] => true
  | .cons e es, x :: xs => ck N sc ns e x && ckEs N sc ns es xs
  | _, _ => false
end

/-! forms of statements -/
noncomputable def asPass (st : Stmt) : Option { p : Pos // st = .Pass p } := match st with
  | .Pass pos => some ⟨pos, rfl⟩
  | _ => none
noncomputable def asExpr (st : Stmt) : Option { p : Expr × Pos // st = .Expr p.1 p.2 } := match st with
  | .Expr x pos => some ⟨(x, pos), rfl⟩
  | _ => none
/- an assignment to one target -/
noncomputable def dAsg (st : Stmt) : Option { p : Expr × Expr × Pos // st = .Assign [p.1] p.2.1 p.2.2 } := match st with
  | .Assign ts x pos => (match one ts with
    | some ⟨t, h⟩ => some ⟨(t, x, pos), by dsimp only; rw [h]⟩
    | none => none)
  | _ => none
noncomputable def asName (st : Stmt) : Option { p : Str × Pos × Expr × Pos // st = .Assign [.Name p.1 p.2.1] p.2.2.1 p.2.2.2 } := match dAsg st with
  | some ⟨(t, x, pos), h⟩ => (match dName t with
    | some ⟨(y, py), hn⟩ => some ⟨(y, py, x, pos), h.trans (by dsimp only at hn ⊢; rw [hn])⟩
    | none => none)
  | none => none
noncomputable def asAttr (st : Stmt) : Option { p : Expr × Str × Pos × Expr × Pos // st = .Assign [.Attribute p.1 p.2.1 p.2.2.1] p.2.2.2.1 p.2.2.2.2 } := match dAsg st with
  | some ⟨(t, x, pos), h⟩ => (match dAttr t with
    | some ⟨(o, y, py), hn⟩ => some ⟨(o, y, py, x, pos), h.trans (by dsimp only at hn ⊢; rw [hn])⟩
    | none => none)
  | none => none
noncomputable def asItem (st : Stmt) : Option { p : Expr × Expr × Pos × Expr × Pos // st = .Assign [.Subscript p.1 p.2.1 p.2.2.1] p.2.2.2.1 p.2.2.2.2 } := match dAsg st with
  | some ⟨(t, x, pos), h⟩ => (match dSub t with
    | some ⟨(o, y, py), hn⟩ => some ⟨(o, y, py, x, pos), h.trans (by dsimp only at hn ⊢; rw [hn])⟩
    | none => none)
  | none => none
noncomputable def asRet (st : Stmt) : Option { p : Option Expr × Pos // st = .Return p.1 p.2 } := match st with
  | .Return x pos => some ⟨(x, pos), rfl⟩
  | _ => none
noncomputable def asIf (st : Stmt) : Option { p : Expr × List Stmt × List Stmt × Pos // st = .If p.1 p.2.1 p.2.2.1 p.2.2.2 } := match st with
  | .If x ts fs pos => some ⟨(x, ts, fs, pos), rfl⟩
  | _ => none
noncomputable def asWhile (st : Stmt) : Option { p : Expr × List Stmt × Pos // st = .While p.1 p.2.1 [] p.2.2 } := match st with
  | .While x ts fs pos => (match nilL fs with
    | some ⟨_, h⟩ => some ⟨(x, ts, pos), by dsimp only; rw [h]⟩
    | none => none)
  | _ => none
noncomputable def dFor (st : Stmt) : Option { p : Expr × Expr × List Stmt × Pos // st = .For p.1 p.2.1 p.2.2.1 [] p.2.2.2 } := match st with
  | .For t x ts fs pos => (match nilL fs with
    | some ⟨_, h⟩ => some ⟨(t, x, ts, pos), by dsimp only; rw [h]⟩
    | none => none)
  | _ => none
noncomputable def asFor1 (st : Stmt) : Option { p : Str × Pos × Expr × List Stmt × Pos // st = .For (.Name p.1 p.2.1) p.2.2.1 p.2.2.2.1 [] p.2.2.2.2 } := match dFor st with
  | some ⟨(t, x, ts, pos), h⟩ => (match dName t with
    | some ⟨(y, py), hn⟩ => some ⟨(y, py, x, ts, pos), h.trans (by dsimp only at hn ⊢; rw [hn])⟩
    | none => none)
  | none => none
noncomputable def pairN (t : Expr) : Option { p : Str × Pos × Str × Pos × Nat × Pos // t = .Tuple [.Name p.1 p.2.1, .Name p.2.2.1 p.2.2.2.1] p.2.2.2.2.1 p.2.2.2.2.2 } := match dTup t with
  | some ⟨(xs, k, pt), h⟩ => (match two xs with
    | some ⟨(a, b), h2⟩ => (match dName a, dName b with
      | some ⟨(y, py), h3⟩, some ⟨(z, pz), h4⟩ => some ⟨(y, py, z, pz, k, pt), h.trans (by dsimp only at h2 h3 h4 ⊢; rw [h2, h3, h4])⟩
      | _, _ => none)
    | none => none)
  | none => none
noncomputable def asFor2 (st : Stmt) : Option { p : (Str × Pos × Str × Pos × Nat × Pos) × Expr × List Stmt × Pos // st = .For (.Tuple [.Name p.1.1 p.1.2.1, .Name p.1.2.2.1 p.1.2.2.2.1] p.1.2.2.2.2.1 p.1.2.2.2.2.2) p.2.1 p.2.2.1 [] p.2.2.2 } := match dFor st with
  | some ⟨(t, x, ts, pos), h⟩ => (match pairN t with
    | some ⟨q, hn⟩ => some ⟨(q, x, ts, pos), h.trans (by dsimp only; rw [hn])⟩
    | none => none)
  | none => none
noncomputable def asCall1 (e : Expr) : Option { p : Str × Pos × Expr × Pos // e = .Call (.Name p.1 p.2.1) [p.2.2.1] [] p.2.2.2 } := match dCallN e with
  | some ⟨(f, fp, xs, cp), h⟩ => (match one xs with
    | some ⟨x, h2⟩ => some ⟨(f, fp, x, cp), h.trans (by dsimp only; rw [h2])⟩
    | none => none)
  | none => none
noncomputable def asCall2 (e : Expr) : Option { p : Str × Pos × Expr × Expr × Pos // e = .Call (.Name p.1 p.2.1) [p.2.2.1, p.2.2.2.1] [] p.2.2.2.2 } := match dCallN e with
  | some ⟨(f, fp, xs, cp), h⟩ => (match two xs with
    | some ⟨(x, y), h2⟩ => some ⟨(f, fp, x, y, cp), h.trans (by dsimp only at h2 ⊢; rw [h2])⟩
    | none => none)
  | none => none
noncomputable def asRaise (st : Stmt) : Option { p : Str × Pos × Str × Nat × Pos × Pos × Pos // st = .Raise (some (.Call (.Name p.1 p.2.1) [.Constant (.str p.2.2.1) p.2.2.2.1 p.2.2.2.2.1] [] p.2.2.2.2.2.1)) none p.2.2.2.2.2.2 } := match st with
  | .Raise (some e) o pos => (match noneO o, asCall1 e with
    | some ⟨_, h1⟩, some ⟨(f, fp, x, cp), h2⟩ => (match dConst x with
      | some ⟨(c, k, mp), h3⟩ => (match cStr c with
        | some ⟨m, h4⟩ => some ⟨(f, fp, m, k, mp, cp, pos), by dsimp only at h2 h3 ⊢; rw [h1, h2, h3, h4]⟩
        | none => none)
      | none => none)
    | _, _ => none)
  | _ => none
noncomputable def asTry (st : Stmt) : Option { p : List Stmt × ExceptHandler × List ExceptHandler × Pos // st = .Try p.1 (p.2.1 :: p.2.2.1) [] [] p.2.2.2 } := match st with
  | .Try ts hs a b pos => (match hs, nilL a, nilL b with
    | h :: hx, some ⟨_, h1⟩, some ⟨_, h2⟩ => some ⟨(ts, h, hx, pos), by dsimp only; rw [h1, h2]⟩
    | _, _, _ => none)
  | _ => none
noncomputable def notComp : ME → Bool
  | .comp .. => false
  | _ => true

noncomputable def asHandler (hd : ExceptHandler) : Option { p : Str × Pos × Option Str × Stmt × List Stmt × Pos // hd = .ExceptHandler (some (.Name p.1 p.2.1)) p.2.2.1 (p.2.2.2.1 :: p.2.2.2.2.1) p.2.2.2.2.2 } := match hd with
  | .ExceptHandler (some (.Name x xp)) y (t :: ts) pos => some ⟨(x, xp, y, t, ts, pos), rfl⟩
  | _ => none
noncomputable def hdName (sc : Scope) (ns : List (Option Str)) (i : Option Nat) (y : Option Str) : Bool := match i with
  | none => y.isNone
  | some i => (match y with
    | some y => isOwn sc ns i y && decide (sc.names.lookup y = some .local)
    | none => false)
mutual
noncomputable def ckS (N : Names) (sc : Scope) (ns : List (Option Str)) (m : MS) (st : Stmt) : Bool :=
  match m with
  | .expr e => (seen (asExpr st) fun p1 => ck N sc ns e p1.1.1 && notComp e)
  | .assign i e => (seen (asName st) fun p1 => isOwn sc ns i p1.1.1 && ck N sc ns e p1.1.2.2.1)
  | .setattr o n e => (seen (asAttr st) fun p1 => ck N sc ns e p1.1.2.2.2.1 && ck N sc ns o p1.1.1 && hasNo N.attrs p1.1.2.1 n)
  | .setitem o i e => (seen (asItem st) fun p1 => ck N sc ns e p1.1.2.2.2.1 && ck N sc ns o p1.1.1 && ck N sc ns i p1.1.2.1)
  | .ret e => (seen (asRet st) fun p1 => ckO N sc ns e p1.1.1)
  | .ite c t f => (seen (asIf st) fun p1 => ck N sc ns c p1.1.1 && ckSs N sc ns t p1.1.2.1 && ckSs N sc ns f p1.1.2.2.1)
  | .each i it b => (seen (asFor1 st) fun p1 => isOwn sc ns i p1.1.1 && ck N sc ns it p1.1.2.2.1 && notSet p1.1.2.2.1 && ckSs N sc ns b p1.1.2.2.2.1)
  | .raise c msg => (seen (asRaise st) fun p1 => isGlob sc p1.1.1 && hasNo N.clss p1.1.1 c && decide (p1.1.2.2.1 = msg) && ckEs N sc ns (.cons (.str msg) .nil) [.Constant (.str p1.1.2.2.1) p1.1.2.2.2.1 p1.1.2.2.2.2.1])
  | .tryx b hs => (seen (asTry st) fun p1 => ckSs N sc ns b p1.1.1 && ckHs N sc ns hs (p1.1.2.1 :: p1.1.2.2.1))
noncomputable def ckSs (N : Names) (sc : Scope) (ns : List (Option Str)) : MSs → List Stmt → Bool
  | .nil, [] => true
  | .cons s ss, x :: xs => ckS N sc ns s x && ckSs N sc ns ss xs
  | _, _ => false
noncomputable def ckHs (N : Names) (sc : Scope) (ns : List (Option Str)) : MHs → List ExceptHandler → Bool
  | .nil, [] => true
  | .cons c i b hs, hd :: hx => (seen (asHandler hd) fun p1 => isGlob sc p1.1.1 && hasNo N.clss p1.1.1 c && ckSs N sc ns b (p1.1.2.2.2.1 :: p1.1.2.2.2.2.1) && hdName sc ns i p1.1.2.2.1) && ckHs N sc ns hs hx
  | _, _ => false
end

/- a def's parameters, scope and body -/
noncomputable def nodupS : List (Option Str) → Bool
  | [] => true
  | none :: r => nodupS r
  | some x :: r => !(r.contains (some x)) && nodupS r
noncomputable def ckF (N : Names) (f : MFun) (ns : List Str) (params : Arguments) (body : List Stmt) (sc : Scope) : Bool :=
  decide (f.arity + f.nvars = ns.length) && decide (ns.take f.arity = params.args.map (·.arg)) && params.posonlyargs.isEmpty && params.vararg.isNone && params.kwonlyargs.isEmpty && params.kwarg.isNone && params.defaults.isEmpty && params.kw_defaults.isEmpty &&
  nodupS (ns.map some) && !sc.isCoroutine && !sc.isGenerator && (match sc.kind with | .function => true | _ => false) && ckSs N sc (ns.map some) f.body body &&
  (sc.names.all fun p => (match p.2 with
    | .local => (match sc.names.lookup p.1 with | some .local => true | _ => false)
    | .cell => (match sc.names.lookup p.1 with | some .cell => true | _ => false)
    | .globalImplicit => (match sc.names.lookup p.1 with | some .globalImplicit => true | _ => false)
    | _ => false)) &&
  (ns.take f.arity).all fun y => (match sc.names.lookup y with | some .local => true | some .cell => true | _ => false)
end Mine

-- part MOps
namespace Mine
open PySem

section
variable {α β : Type} {cx : Cx} {A : Around} {P : Amb} {H : Hp} {ρ : Rho} {s : Shared} {t : Sem α} {V : β → α → Amb}

theorem simAt_pure {b : β} (R : Rel cx H ρ s) (k : ∀ (Q : α → Shared → Prop) (E : Value → Shared → Prop), (∀ a tk, (V b a).P ρ s.heap → Q a { s with toks := tk }) → wpAny (model cx.prog cx.w) A t Q E s) : SimAt cx A (.ok b H) t V ρ s :=
  k _ _ fun a tk v => ⟨ρ, Full.refl _ _, R.toks tk, v⟩
/- a new list -/
theorem Rel.newList {xs : List Val} {vs : List Value} (tk : Nat) (R : Rel cx H ρ s) (r : VRs cx ρ s.heap xs vs) (z : xs.length ≤ sizeLine) :
    ∃ ρ', Full ρ s.heap ρ' (s.heap.push (listO vs 0)) ∧ Rel cx (H ++ [.list xs]) ρ' { s with heap := s.heap.push (listO vs 0), toks := tk } ∧ VR cx ρ' (s.heap.push (listO vs 0)) (.loc H.length) (.ref s.heap.objs.size) := by
  have kp : ∀ b o, s.heap.get? b = some o → (s.heap.push (listO vs 0)).get? b = some o := fun b o e => Heap.get?_push_of_some _ e
  obtain ⟨F, R'⟩ := R.alloc (tk := tk) (o := .list xs) (p := (s.heap.objs.size, s.heap.objs.size)) kp ⟨fresh_none _, fresh_none _⟩
    (.list (n := 0) (Heap.get?_push_size _ rfl) (r.step (Full.alloc kp ⟨fresh_none _, fresh_none _⟩).step) z)
  refine ⟨_, F, R', ?_⟩
  rw [R.len]
  exact VR.loc (p := (s.heap.objs.size, s.heap.objs.size)) (by rw [List.getElem?_append_right (Nat.le_refl _)]; simp)
theorem simAt_list {t : Sem Value} {xs : List Val} {vs : List Value} {tk : Nat} (R : Rel cx H ρ s) (r : VRs cx ρ s.heap xs vs) (z : xs.length ≤ sizeLine)
    (k : ∀ (Q : Value → Shared → Prop) (E : Value → Shared → Prop), Q (.ref s.heap.objs.size) { s with heap := s.heap.push (listO vs 0), toks := tk } → wpAny (model cx.prog cx.w) A t Q E s) :
    SimAt cx A (.ok (.loc H.length) (H ++ [.list xs])) t (Amb.vr cx) ρ s :=
  k _ _ (R.newList tk r z)
/- a new tuple -/
theorem simAt_tuple {t : Sem Value} {xs : List Val} {vs : List Value} {tk : Nat} (R : Rel cx H ρ s) (r : VRs cx ρ s.heap xs vs) (z : xs.length ≤ sizeLine)
    (k : ∀ (Q : Value → Shared → Prop) (E : Value → Shared → Prop), Q (.ref s.heap.objs.size) { s with heap := s.heap.push (tupO vs 0), toks := tk } → wpAny (model cx.prog cx.w) A t Q E s) :
    SimAt cx A (.ok (.tup xs) H) t (Amb.vr cx) ρ s := by
  refine k _ _ ?_
  have F := Full.push ρ s.heap (tupO vs 0)
  exact ⟨ρ, F, R.push _ _, VR.tup (Heap.get?_push_size _ rfl) (R.fresh_not (fresh_none _)) z (r.step F.step)⟩
/- a list is turned -/
theorem simAt_listSet {l : Nat} {p : Addr × Addr} {b : β} {xs : List Val} {vs : List Value} {n tk : Nat} {h' : Heap} (R : Rel cx H ρ s) (hl : ρ[l]? = some p) (hpp : p.2 = p.1) (r : VRs cx ρ s.heap xs vs) (z : xs.length ≤ sizeLine)
    (e : h'.get? p.1 = some (listO vs n)) (hs : Heap.SameBut p.1 s.heap h') (v : α) (hv : ∀ h, (V b v).P ρ h)
    (k : ∀ (Q : α → Shared → Prop) (E : Value → Shared → Prop), Q v { s with heap := h', toks := tk } → wpAny (model cx.prog cx.w) A t Q E s) :
    SimAt cx A (.ok b (H.set l (.list xs))) t V ρ s := by
  refine k _ _ ?_
  have own : Owned ρ p.1 := ⟨p, List.mem_of_getElem? hl, .inl rfl⟩
  have F := Full.own own e hs
  obtain ⟨F', R'⟩ := R.set (tk := tk) (o := .list xs) hl (fun b ob eb n1 _ => by rw [hs.2 b n1]; exact eb) (SameBut.live hs e) (by
    obtain ⟨p1, p2⟩ := p
    dsimp only at hpp
    subst hpp
    exact .list e (r.step F.step) z)
  exact ⟨ρ, F', R', hv _⟩
end

theorem sizeLine_lid : lid = sizeLine := by rw [sizeLine_eq]; rfl

section
variable {cx : Cx} {A : Around} {P : Amb} {a b : Val} {v w : Value}

theorem small_ok {x : Int} (h : small x = true) : Builtin.Int.intBits x ≤ 64 := by
  unfold small at h
  simp only [Bool.and_eq_true, decide_eq_true_eq] at h
  exact intBits_le_64 h.1 h.2

/- the list at a place of the mini heap -/
theorem Rel.listAt {H : Hp} {ρ : Rho} {s : Shared} (R : Rel cx H ρ s) {l : Nat} {xs : List Val} {p : Addr × Addr} (hH : H[l]? = some (.list xs)) (hρ : ρ[l]? = some p) :
    ∃ vs n, p.2 = p.1 ∧ s.heap.get? p.1 = some (listO vs n) ∧ VRs cx ρ s.heap xs vs ∧ xs.length ≤ sizeLine := by
  have := R.objs l _ p hH hρ
  generalize ho : HObj.list xs = o at this
  cases this with
  | list e r z => cases ho; exact ⟨_, _, rfl, e, r, z⟩
  | dict _ _ _ => cases ho
  | inst _ _ _ _ _ _ _ _ _ _ => cases ho
  | hid _ => cases ho

/-! what a value stands for, by its make -/
theorem VR.int_inv {ρ : Rho} {h : Heap} {i : Int} (x : VR cx ρ h (.int i) v) : ∃ t, v = .int i t := by cases x; exact ⟨_, rfl⟩
theorem VR.str_inv {ρ : Rho} {h : Heap} {i : Str} (x : VR cx ρ h (.str i) v) : ∃ t, v = .str i t ∧ i.length ≤ sizeLine := by cases x; exact ⟨_, rfl, by assumption⟩
theorem VR.bool_inv {ρ : Rho} {h : Heap} {i : Bool} (x : VR cx ρ h (.bool i) v) : v = .bool i := by cases x; rfl
theorem VR.none_inv {ρ : Rho} {h : Heap} (x : VR cx ρ h .none v) : v = .none := by cases x; rfl
theorem VR.loc_inv {ρ : Rho} {h : Heap} {l : Nat} (x : VR cx ρ h (.loc l) v) : ∃ p, ρ[l]? = some p ∧ v = .ref p.1 := by cases x; exact ⟨_, by assumption, rfl⟩

theorem VRs.nil_inv {ρ : Rho} {h : Heap} {vs : List Value} (x : VRs cx ρ h [] vs) : vs = [] := by cases x; rfl
theorem VRs.cons_inv {ρ : Rho} {h : Heap} {m : Val} {ms : List Val} {vs : List Value} (x : VRs cx ρ h (m :: ms) vs) : ∃ v vs', vs = v :: vs' ∧ VR cx ρ h m v ∧ VRs cx ρ h ms vs' := by cases x; exact ⟨_, _, rfl, by assumption, by assumption⟩
theorem VRs.one_inv {ρ : Rho} {h : Heap} {m : Val} {vs : List Value} (x : VRs cx ρ h [m] vs) : ∃ v, vs = [v] ∧ VR cx ρ h m v := by
  obtain ⟨v, vs', rfl, y, z⟩ := x.cons_inv
  exact ⟨v, by rw [z.nil_inv], y⟩
theorem VRs.two_inv {ρ : Rho} {h : Heap} {m n : Val} {vs : List Value} (x : VRs cx ρ h [m, n] vs) : ∃ v w, vs = [v, w] ∧ VR cx ρ h m v ∧ VR cx ρ h n w := by
  obtain ⟨v, vs', rfl, y, z⟩ := x.cons_inv
  obtain ⟨w, rfl, u⟩ := z.one_inv
  exact ⟨v, w, rfl, y, u⟩
theorem replicate_fold (v : Value) : ∀ (n : Nat) (acc : Array Value), List.foldl (fun (x1 x2 : Array Value) => x1 ++ x2) acc (List.replicate n #[v]) = acc ++ (List.replicate n v).toArray
  | 0, acc => by simp
  | n + 1, acc => by
    rw [List.replicate_succ, List.foldl_cons, replicate_fold v n]
    apply Array.toList_inj.mp
    simp [List.replicate_succ]
theorem wp_rep {s : Shared} {l : Addr} {u : Value} {k : Nat} {x : Int} {t : Tok} {Q : Value → Shared → Prop} {E : Value → Shared → Prop} (hl : s.heap.get? l = some (listO [u] k)) (h0 : 0 ≤ x) (h1 : x ≤ 1000)
    (h : Q (.ref s.heap.objs.size) { s with heap := s.heap.push (listO (List.replicate x.toNat u) 0) }) : wpAny (model cx.prog cx.w) A (binaryOp .Mult (.ref l) (.int x t)) Q E s := by
  refine wpAny_binaryOp_repeat_ref (T := "list") (U := "int") (by decide) ⟨_, hl, rfl⟩ (fun s' => typeIs_int s' x t) noFill_list_mul F.fills_int_mul F.slot_int_rmul repeat_list F.slot_int_index.lookup
    (call_meets F.slot_int_rmul (typeIs_int s x t) F.entry_int_rmul (F.args_int_rmul_2 _ _) (int___rmul___int_list x t l #[u] k)
      ⟨hl, rfl, ⟨_, hl, rfl⟩, call_meets F.slot_list_mul ⟨_, hl, rfl⟩ F.entry_list_mul (F.args_list_mul_2 _ _)
        (AutoListH.list___mul___list_int_3 l #[u] k x t (by simp [Builtin.List.listFitsIndex]; omega) (by have e1 : (#[u] : Array Value).size = 1 := rfl; rw [e1]; omega) (by have e1 : (#[u] : Array Value).size = 1 := rfl; rw [Builtin.List.listTooLong, e1]; simp [sizeLine]; omega))
        ⟨hl, ?_⟩⟩)
  have e : (if (#[u] : Array Value).isEmpty = true then 0 else x.toNat) = x.toNat := rfl
  rw [e, replicate_fold]
  simpa [listO] using h

set_option tactic.hygienic true in
theorem sim_bin {op : BOp} {o : Operator} (ho : opOk op o = true) (h1 : ∀ ρ h, P.P ρ h → VR cx ρ h a v) (h2 : ∀ ρ h, P.P ρ h → VR cx ρ h b w) : Sim cx A P (binaryOp o v w) (binV op a b) (Amb.vr cx) := by
  intro H ρ s R p
  have x1 := h1 _ _ p
  have x2 := h2 _ _ p
  clear h1 h2 p
  have ho' : bOp op = o := of_decide_eq_true ho
  subst ho'
  clear ho
  cases op with
  | add =>
    cases a with
    | int i =>
      cases b with
      | int j =>
        obtain ⟨_, rfl⟩ := x1.int_inv
        obtain ⟨_, rfl⟩ := x2.int_inv
        exact simAt_pure R fun Q E k => PyProof.Rows.add_int (k _ _ (.int _ _))
      | _ => trivial
    | str x =>
      cases b with
      | str y =>
        obtain ⟨_, rfl, _⟩ := x1.str_inv
        obtain ⟨_, rfl, _⟩ := x2.str_inv
        show SimAt cx A ((if x.length + y.length ≤ lid then M.ret (Val.str (x ++ y)) else M.bad) H) _ _ ρ s
        by_cases q : x.length + y.length ≤ lid
        · rw [if_pos q]
          rw [sizeLine_lid] at q
          exact simAt_pure R fun Q E k => PyProof.Rows.add_str (fun t' tk => k _ _ (.str _ _ (by rw [strLen_append]; exact q))) q
        · rw [if_neg q]; trivial
      | _ => trivial
    | loc l1 =>
      cases b with
      | loc l2 =>
        obtain ⟨p1, e1, rfl⟩ := x1.loc_inv
        obtain ⟨p2, e2, rfl⟩ := x2.loc_inv
        show SimAt cx A (match H[l1]?, H[l2]? with
          | some (.list xs), some (.list ys) => if xs.length + ys.length ≤ lid then M.alloc (.list (xs ++ ys)) H else .bad
          | _, _ => .bad) _ _ ρ s
        split
        · rename_i xs ys q1 q2
          obtain ⟨vs, n, _, g1, r1, _⟩ := R.listAt q1 e1
          obtain ⟨ws, m, _, g2, r2, _⟩ := R.listAt q2 e2
          by_cases q : xs.length + ys.length ≤ lid
          · rw [if_pos q]
            rw [sizeLine_lid] at q
            refine simAt_list (vs := vs ++ ws) (tk := s.toks) R (r1.append r2) (by rw [List.length_append]; exact q) fun Q E k => ?_
            refine PySem.P.add_list (items := vs.toArray) (items2 := ws.toArray) (n := n) (n2 := m) g1 g2 ?_ (by simp only [List.size_toArray]; rw [← r1.length, ← r2.length]; exact q)
            simpa [listO] using k
          · rw [if_neg q]; trivial
        · trivial
      | _ => trivial
    | _ => trivial
  | sub =>
    cases a with
    | int i =>
      cases b with
      | int j =>
        obtain ⟨_, rfl⟩ := x1.int_inv
        obtain ⟨_, rfl⟩ := x2.int_inv
        exact simAt_pure R fun Q E k => PyProof.Rows.sub_int (k _ _ (.int _ _))
      | _ => trivial
    | _ => trivial
  | mul =>
    cases a with
    | int i =>
      cases b with
      | int j =>
        obtain ⟨_, rfl⟩ := x1.int_inv
        obtain ⟨_, rfl⟩ := x2.int_inv
        show SimAt cx A ((if (small i || small j) = true then M.ret (Val.int (i * j)) else M.bad) H) _ _ ρ s
        by_cases q : (small i || small j) = true
        · rw [if_pos q]
          refine simAt_pure R fun Q E k => PyProof.Rows.mul_int (k _ _ (.int _ _)) ?_
          rcases (Bool.or_eq_true _ _).mp q with q | q
          · exact IntMulOk.of_left (small_ok q)
          · exact IntMulOk.of_right (small_ok q)
        · rw [if_neg q]; trivial
      | _ => trivial
    | loc l1 =>
      cases b with
      | int j =>
        obtain ⟨p1, e1, rfl⟩ := x1.loc_inv
        obtain ⟨_, rfl⟩ := x2.int_inv
        show SimAt cx A (match H[l1]? with
          | some (.list [v]) => if 0 ≤ j ∧ j ≤ 1000 then M.alloc (.list (List.replicate j.toNat v)) H else .bad
          | _ => .bad) _ _ ρ s
        split
        · rename_i y q1
          obtain ⟨vs, n, _, g1, r1, _⟩ := R.listAt q1 e1
          by_cases q : 0 ≤ j ∧ j ≤ 1000
          · rw [if_pos q]
            obtain ⟨u, rfl, r2⟩ := r1.one_inv
            refine simAt_list (vs := List.replicate _ u) (tk := s.toks) R (VRs.replicate r2 _) (by rw [List.length_replicate, sizeLine_eq]; omega) fun Q E k => ?_
            exact wp_rep g1 q.1 q.2 k
          · rw [if_neg q]; trivial
        · trivial
      | _ => trivial
    | _ => trivial
  | fdiv =>
    cases a with
    | int i =>
      cases b with
      | int j =>
        obtain ⟨_, rfl⟩ := x1.int_inv
        obtain ⟨_, rfl⟩ := x2.int_inv
        show SimAt cx A ((if j = 0 ∨ 1073741824 ≤ j.natAbs then M.bad else M.ret (Val.int (Int.fdiv i j))) H) _ _ ρ s
        by_cases q : j = 0 ∨ 1073741824 ≤ j.natAbs
        · rw [if_pos q]; trivial
        · rw [if_neg q]
          exact simAt_pure R fun Q E k => PyProof.Rows.floordiv_int (fun e => q (.inl e)) (k _ _ (.int _ _)) (.inl (PyProof.noPylong_small (by omega)))
      | _ => trivial
    | _ => trivial
  | mod =>
    cases a with
    | int i =>
      cases b with
      | int j =>
        obtain ⟨_, rfl⟩ := x1.int_inv
        obtain ⟨_, rfl⟩ := x2.int_inv
        show SimAt cx A ((if j = 0 then M.bad else M.ret (Val.int (Int.fmod i j))) H) _ _ ρ s
        by_cases q : j = 0
        · rw [if_pos q]; trivial
        · rw [if_neg q]
          exact simAt_pure R fun Q E k => PyProof.Rows.mod_int' q (k _ _ (.int _ _))
      | _ => trivial
    | _ => trivial
end
end Mine

-- part MExpr
namespace Mine
open PySem

structure FnOk (cx : Cx) (N : Names) (a : Addr) (f : MFun) : Prop where
  is : ∃ o fd body ns, cx.h₀.get? a = some o ∧ o.cls = .type "function" ∧ o.data = .func fd ∧ cx.h₀.CodeRec fd.code fd.qualname ∧ fd.body = .stmts body ∧ fd.closure = [] ∧ fd.globals = mainGlobals ∧ fd.builtins = builtinsNs ∧
    fd.defaults = .none ∧ fd.kwdefaults = .none ∧ ckF N f ns fd.params body fd.scope = true
/- a class of the text's own, as it lies on the heap -/
structure ClsOk (cx : Cx) (N : Names) (c : Nat) (C : Addr) : Prop where
  is : ∃ nm q Nn bs sn sub col dd k0 k1 k2 k3 k5 mN, cx.h₀.get? C = some (excClassObj nm q C Nn bs [.type "object"] true sn sub false col dd k0 k1 k2 k3 k5 "object.__new__") ∧ cx.h₀.Ns Nn mN ∧
    mN "__getattribute__" = none ∧ mN "__getattr__" = none ∧ mN "__setattr__" = none ∧
    (∀ (n : Nat) (y : Str), cx.attrs[n]? = some y → mN y = none ∧ typeLookup (.type "object") y = pure none) ∧
    (∀ (y : Str) (m k : Nat), N.meths.lookup y = some m → cx.T.meth c m = some k → ∃ fa o fd, cx.fns[k]? = some fa ∧ mN y = some (.ref fa) ∧ cx.h₀.get? fa = some o ∧ o.cls = .type "function" ∧ o.data = .func fd ∧ (∀ n : Nat, cx.attrs[n]? ≠ some y) ∧ ∃ r, typeLookup (.type "object") y = pure r)
structure ClsBase (cx : Cx) (N : Names) : Prop where
  attr : ∀ (y : Str) (n : Nat), N.attrs.lookup y = some n → cx.attrs[n]? = some y
  inj : ∀ (i j : Nat) (y : Str), cx.attrs[i]? = some y → cx.attrs[j]? = some y → i = j
  few : cx.attrs.length ≤ sizeLine
  init : N.meths.lookup ("__init__" : Str) = some 0
  ref : ∀ (c : Nat) (v : Value), cx.cls[c]? = some v → (cx.T.meth c 0).isSome = true → ∃ C, v = .ref C
  cls : ∀ (c : Nat) (C : Addr), cx.cls[c]? = some (.ref C) → (cx.T.meth c 0).isSome = true → ClsOk cx N c C
/- the classes over ValueError -/
noncomputable def mroV : List Value := [.type "ValueError", .type "Exception", .type "BaseException", .type "object"]
/- a class of exceptions -/
structure ExcOk (cx : Cx) (c : Nat) (C : Addr) : Prop where
  is : ∃ nm q Nn bs bm hdct sn sub ab col dd k0 k1 k2 k3 k5 mN, cx.h₀.get? C = some (excClassObj nm q C Nn bs bm hdct sn sub ab col dd k0 k1 k2 k3 k5 "ValueError.__new__") ∧ cx.h₀.Ns Nn mN ∧ mN "__init__" = none ∧ OwnTail cx.h₀ mroV bm ∧
    ∀ (d : Nat) (D : Value), cx.cls[d]? = some D → cx.T.sub c d = (Value.ref C :: bm).contains D
  isi : ∃ K : PySem.W.Frag, K.In cx.h₀ ∧ ExcK K C ∧ ∀ (d : Nat) (D : Value), cx.cls[d]? = some D → clsVal K D = true ∧ PySem.W.mroIn K C D = some (cx.T.sub c d)
structure Base (cx : Cx) (N : Names) : Prop where
  ns : ∃ mg mb, cx.h₀.Ns mainGlobals mg ∧ cx.h₀.Ns builtinsNs mb ∧
    (∀ x k, N.funs.lookup x = some k → ∃ a, cx.fns[k]? = some a ∧ mg x = some (.ref a)) ∧
    (∀ x k, N.globs.lookup x = some k → ∃ v val, cx.T.globs[k]? = some v ∧ mg x = some val ∧ ∀ ρ h, VR cx ρ h v val) ∧
    (∀ x c, N.clss.lookup x = some c → ∃ C, cx.cls[c]? = some C ∧ (mg x = some C ∨ (mg x = none ∧ mb x = some C))) ∧
    (∀ p ∈ bltTab, mg p.1 = none ∧ mb p.1 = some p.2)
  lim : cx.h₀.NoLimit
  fns : ∀ (k : Nat) (a : Addr) (f : MFun), cx.fns[k]? = some a → cx.T.funs[k]? = some f → FnOk cx N a f
  cls : ClsBase cx N
  exc : ∀ c : Nat, cx.T.isExc c = true → ∃ C, cx.cls[c]? = some (.ref C) ∧ ExcOk cx c C

set_option tactic.hygienic true in
theorem hasNo_eq {l : List (Str × Nat)} {x : Str} {k : Nat} (h : hasNo l x k = true) : l.lookup x = some k := by
  unfold hasNo at h
  split at h
  · rename_i j e
    rw [e, of_decide_eq_true h]
  · cases h
theorem isGlob_eq {sc : Scope} {x : Str} (h : isGlob sc x = true) : sc.names.lookup x = some .globalImplicit ∧ (x == ("__debug__" : Str)) = false := by
  unfold isGlob at h
  rw [Bool.and_eq_true] at h
  refine ⟨?_, by simpa using h.2⟩
  have := h.1
  split at this
  · assumption
  · cases this
set_option tactic.hygienic true in
theorem isVar_eq {sc : Scope} {ns : List (Option Str)} {i : Nat} {x : Str} (h : isVar sc ns i x = true) :
    (sc.names.lookup x = some .local ∨ sc.names.lookup x = some .cell ∨ sc.names.lookup x = some .free) ∧ ns[i]? = some (some x) ∧ (x == ("__debug__" : Str)) = false ∧ (x == ("__classdict__" : Str)) = false := by
  unfold isVar at h
  simp only [Bool.and_eq_true, Bool.not_eq_true'] at h
  obtain ⟨⟨⟨h1, h2⟩, h3⟩, h4⟩ := h
  refine ⟨?_, ?_, h3, h4⟩
  · split at h1 <;> simp_all
  · split at h2
    · rename_i y e; rw [e, of_decide_eq_true h2]
    · cases h2

section
variable {cx : Cx} {N : Names} {A : Around} {env : Env} {sc : Scope} {ns : List (Option Str)} {Γ : Env'}

theorem sim_var {i : Nat} {x : Str} {pos : Pos} (hv : isVar sc ns i x = true) (Φ : Funs) : Sim cx A (Amb.env cx env sc ns Γ) (eval (.Name x pos) env) (evalE cx.T Φ (.var i) Γ) (Amb.vr cx) := by
  obtain ⟨_, hn, hd, hc⟩ := isVar_eq hv
  intro H ρ s R p
  rw [ev_var]
  cases e : Γ[i]? with
  | none => trivial
  | some o =>
    cases o with
    | none => trivial
    | some mv =>
      obtain ⟨v, q, r⟩ := p.vals i x mv hn e
      refine simAt_pure R fun Q E k => ?_
      have k' := k v s.toks r
      rcases q with ⟨kd, m, hm, hv⟩ | ⟨kd, c, hc', hv⟩
      · exact wpAny_Name (wpAny_loadName_local p.st.fn kd hm hv k') hd
      · rcases kd with kd | kd
        · exact wpAny_Name (wpAny_loadName_cell p.st.fn kd hc' hv k') hd
        · exact wpAny_Name (wpAny_loadName_free p.st.fn kd hc' hv k' hc) hd

/- a global name -/
theorem wp_glob {ρ : Rho} {s : Shared} {H : Hp} {x : Str} {pos : Pos} {mg mb : Str → Option Value} {v : Value} {Q : Value → Shared → Prop} {E : Value → Shared → Prop} (R : Rel cx H ρ s) (p : EnvSt cx env sc ρ s.heap) (hg : isGlob sc x = true)
    (ng : cx.h₀.Ns mainGlobals mg) (nb : cx.h₀.Ns builtinsNs mb) (hv : mg x = some v ∨ (mg x = none ∧ mb x = some v)) (h : Q v s) : wpAny (model cx.prog cx.w) A (eval (.Name x pos) env) Q E s := by
  obtain ⟨h1, h2⟩ := isGlob_eq hg
  have kd : env.kindOf x = some .globalImplicit := p.kinds x _ h1
  have ng' : s.heap.Ns env.globals mg := by rw [p.glob]; exact ng.keeps R.base
  have nb' : s.heap.Ns env.builtins mb := by rw [p.blt]; exact nb.keeps R.base
  refine Calls.Name_function_global p.fn kd ?_ h2
  rcases hv with hv | ⟨h0, hv⟩
  · exact Calls.loadGlobal_global ng' hv h
  · exact Calls.loadGlobal_builtin ng' h0 nb' hv h
theorem sim_glob (B : Base cx N) {k : Nat} {x : Str} {pos : Pos} (hg : isGlob sc x = true) (hk : hasNo N.globs x k = true) (Φ : Funs) : Sim cx A (Amb.env cx env sc ns Γ) (eval (.Name x pos) env) (evalE cx.T Φ (.glob k) Γ) (Amb.vr cx) := by
  obtain ⟨mg, mb, ng, nb, _, q, _⟩ := B.ns
  obtain ⟨v, val, e1, e2, r⟩ := q x k (hasNo_eq hk)
  intro H ρ s R p
  rw [ev_glob, e1]
  exact simAt_pure R fun Q E k => wp_glob R p.st hg ng nb (.inl e2) (k _ s.toks (r _ _))

theorem sim_truthy {a : Val} {v : Value} {P : Amb} (h : ∀ ρ h, P.P ρ h → VR cx ρ h a v) : Sim cx A P (truthy v) (truth a) (fun b b' => Amb.prop (b' = b)) := by
  intro H ρ s R p
  have x := h _ _ p
  cases x with
  | bool b => exact simAt_pure R fun Q E k => wpAny_truthy_bool (k _ s.toks rfl)
  | _ => trivial
theorem sim_neg {a : Val} {v : Value} {P : Amb} (h : ∀ ρ h, P.P ρ h → VR cx ρ h a v) : Sim cx A P (unaryOp .USub v) (match a with | .int i => M.ret (Val.int (-i)) | _ => .bad) (Amb.vr cx) := by
  intro H ρ s R p
  have x := h _ _ p
  cases x with
  | int i t => exact simAt_pure R fun Q E k => PyProof.Rows.neg_int (k _ _ (.int _ _))
  | _ => trivial
theorem sim_not {a : Val} {v : Value} {P : Amb} (h : ∀ ρ h, P.P ρ h → VR cx ρ h a v) : Sim cx A P (unaryOp .Not v) ((truth a).bnd fun b => M.ret (Val.bool (!b))) (Amb.vr cx) := by
  intro H ρ s R p
  have x := h _ _ p
  cases x with
  | bool b => exact simAt_pure R fun Q E k => not_value (wpAny_truthy_bool (k _ s.toks (.bool _)))
  | _ => trivial
end
end Mine

-- part MCmp
namespace Mine
open PySem

/-! ## data -/
set_option tactic.hygienic true in
theorem dats_length {f : Val → Option PyData} : ∀ {xs : List Val} {ds : List PyData}, dats f xs = some ds → ds.length = xs.length
  | [], ds, h => by simp [dats] at h; subst h; rfl
  | x :: xs, ds, h => by
    simp only [dats] at h
    split at h
    · rename_i d ds' e1 e2
      cases h
      rw [List.length_cons, List.length_cons, dats_length e2]
    · cases h
section
variable {cx : Cx} {H : Hp} {ρ : Rho} {s : Shared}
set_option tactic.hygienic true in
theorem reads_dats {n : Nat} {f : Val → Option PyData} (ih : ∀ {m : Val} {v : Value} {d : PyData}, VR cx ρ s.heap m v → f m = some d → (∃ as, Reads s.heap v d as) ∧ d.canLay0 = true ∧ d.depth ≤ n) :
    ∀ {xs : List Val} {vs : List Value} {ds : List PyData}, VRs cx ρ s.heap xs vs → dats f xs = some ds → (∃ as, ReadsAll s.heap vs ds as) ∧ PyData.canLayAll0 ds = true ∧ PyData.depthAll ds ≤ n := by
  intro xs
  induction xs with
  | nil =>
    intro vs ds r h
    cases r
    simp [dats] at h; subst h
    exact ⟨⟨_, .nil⟩, by simp [PyData.canLayAll0], by simp [PyData.depthAll]⟩
  | cons x xs hi =>
    intro vs ds r h
    cases r with
    | cons a r =>
      simp only [dats] at h
      split at h
      · rename_i d ds' e1 e2
        cases h
        obtain ⟨⟨as, h1⟩, h2, h3⟩ := ih a e1
        obtain ⟨⟨bs, g1⟩, g2, g3⟩ := hi r e2
        exact ⟨⟨_, .cons h1 g1⟩, by simp [PyData.canLayAll0, h2, g2], by simp only [PyData.depthAll]; omega⟩
      · cases h
theorem ite_some {α : Type} {p : Prop} [Decidable p] {x y : α} (h : (if p then some x else none) = some y) : p ∧ x = y := by
  by_cases q : p
  · rw [if_pos q] at h; exact ⟨q, Option.some.inj h⟩
  · rw [if_neg q] at h; cases h
set_option tactic.hygienic true in
theorem reads_data (R : Rel cx H ρ s) : ∀ (n : Nat) {m : Val} {v : Value} {d : PyData}, VR cx ρ s.heap m v → dataOf H n m = some d → (∃ as, Reads s.heap v d as) ∧ d.canLay0 = true ∧ d.depth ≤ n := by
  intro n
  induction n with
  | zero =>
    intro m v d x h
    cases x with
    | none => cases h; exact ⟨⟨_, .none⟩, rfl, Nat.zero_le _⟩
    | bool b => cases h; exact ⟨⟨_, .bool b⟩, rfl, Nat.zero_le _⟩
    | int i t => cases h; exact ⟨⟨_, .int i t⟩, rfl, Nat.zero_le _⟩
    | str y t z =>
      obtain ⟨h1, h2⟩ := ite_some h
      cases h2; exact ⟨⟨_, .str y t⟩, h1, Nat.zero_le _⟩
    | _ => cases h
  | succ n ih =>
    intro m v d x h
    cases x with
    | none => cases h; exact ⟨⟨_, .none⟩, rfl, Nat.zero_le _⟩
    | bool b => cases h; exact ⟨⟨_, .bool b⟩, rfl, Nat.zero_le _⟩
    | int i t => cases h; exact ⟨⟨_, .int i t⟩, rfl, Nat.zero_le _⟩
    | str y t z =>
      obtain ⟨h1, h2⟩ := ite_some h
      cases h2; exact ⟨⟨_, .str y t⟩, h1, Nat.zero_le _⟩
    | @tup a vs k ms e no z r =>
      obtain ⟨ds, h1, rfl⟩ := Option.map_eq_some_iff.mp h
      obtain ⟨⟨as, g1⟩, g2, g3⟩ := reads_dats (n := n) (fun x h => ih x h) r h1
      exact ⟨⟨_, .tuple e rfl rfl (by simpa using g1)⟩, g2, Nat.succ_le_succ g3⟩
    | @loc l p e =>
      have h : (match H[l]? with | some (.list vs) => (dats (dataOf H n) vs).map .list | _ => none) = some d := h
      split at h
      · rename_i xs hl
        obtain ⟨ds, h1, rfl⟩ := Option.map_eq_some_iff.mp h
        obtain ⟨vs, k, _, g, r, _⟩ := R.listAt hl e
        obtain ⟨⟨as, g1⟩, g2, g3⟩ := reads_dats (n := n) (fun x h => ih x h) r h1
        exact ⟨⟨_, .list g rfl rfl (by simpa using g1)⟩, g2, Nat.succ_le_succ g3⟩
      · cases h
    | _ => cases h
end

section
variable {cx : Cx} {A : Around} {P : Amb} {a b : Val} {v w : Value} {H : Hp} {ρ : Rho} {s : Shared}

theorem shaped_of {d : PyData} {n : Nat} (h : d.canLay0 = true) (k : d.depth ≤ n) (z : n ≤ 64 := by decide) : SeqAt.shaped d = true := by
  unfold SeqAt.shaped; rw [h, Bool.true_and]; exact decide_eq_true (Nat.le_trans k z)

/- == and != -/
set_option tactic.hygienic true in
theorem wp_eq (R : Rel cx H ρ s) (x : VR cx ρ s.heap a v) (y : VR cx ρ s.heap b w) {r : Bool} (e : pyEq H a b = some r) (hu : A.units + 100 < cLine) {Q : Value → Shared → Prop} {E : Value → Shared → Prop} (k : Q (.bool r) s) :
    wpAny (model cx.prog cx.w) A (compareOp .Eq v w) Q E s := by
  unfold pyEq at e
  split at e
  · rename_i d1 d2 e1 e2
    cases e
    obtain ⟨⟨as, g1⟩, g2, g3⟩ := reads_data R deep x e1
    obtain ⟨⟨bs, f1⟩, f2, f3⟩ := reads_data R deep y e2
    exact SeqAt.compareEq_shaped g1 f1 (shaped_of g2 g3) (shaped_of f2 f3) (by omega) k
  · cases e
set_option tactic.hygienic true in
theorem wp_ne (R : Rel cx H ρ s) (x : VR cx ρ s.heap a v) (y : VR cx ρ s.heap b w) {r : Bool} (e : pyEq H a b = some r) (hu : A.units + 100 < cLine) {Q : Value → Shared → Prop} {E : Value → Shared → Prop} (k : Q (.bool (!r)) s) :
    wpAny (model cx.prog cx.w) A (compareOp .NotEq v w) Q E s := by
  unfold pyEq at e
  split at e
  · rename_i d1 d2 e1 e2
    cases e
    obtain ⟨⟨as, g1⟩, g2, g3⟩ := reads_data R deep x e1
    obtain ⟨⟨bs, f1⟩, f2, f3⟩ := reads_data R deep y e2
    exact SeqAt.compareNe_shaped g1 f1 (shaped_of g2 g3) (shaped_of f2 f3) (by omega) k
  · cases e

theorem flip_some {o : Option Bool} {r : Bool} (h : flip true o = some r) : ∃ r', o = some r' ∧ r = !r' := by
  cases o with
  | none => simp [flip] at h
  | some b => refine ⟨b, rfl, ?_⟩; simp [flip] at h; rw [h]; simp

theorem isV_none_val {r : Bool} (x : VR cx ρ s.heap a v) (h : isV a .none = some r) : r = (v == .none) := by
  cases x <;> simp_all [isV]
set_option tactic.hygienic true in
theorem isV_bool_val {r y : Bool} (x : VR cx ρ s.heap a v) (h : isV a (.bool y) = some r) : plainIs v (.bool y) = true ∧ r = (v == .bool y) := by
  cases x <;> simp_all [isV, plainIs]
  rename_i b
  rw [← h]; cases b <;> cases y <;> rfl

theorem Rel.dictAt (R : Rel cx H ρ s) {l : Nat} {es : List (Key × Val)} {p : Addr × Addr} (hH : H[l]? = some (.dict es)) (hρ : ρ[l]? = some p) :
    ∃ xs, p.2 = p.1 ∧ s.heap.DictOfH (cellKind cx) p.1 xs ∧ DRs cx ρ s.heap es xs ∧ es.length ≤ sizeLine := by
  have := R.objs l _ p hH hρ
  generalize ho : HObj.dict es = o at this
  cases this with
  | list e r z => cases ho
  | dict d r z => cases ho; exact ⟨_, rfl, d, r, z⟩
  | inst _ _ _ _ _ _ _ _ _ _ => cases ho
  | hid _ => cases ho
theorem keyOf_eq {k : Key} (h : keyOf a = some k) : a = .tup [.int k.1, .int k.2] := by
  unfold keyOf at h
  split at h
  · cases h; rfl
  · cases h
theorem key_is {k : Key} (x : VR cx ρ s.heap a v) (h : keyOf a = some k) : ∃ b, v = .ref b ∧ (cellKind cx).is s.heap [k.1, k.2] b ∧ ¬ Owned ρ b := by
  rw [keyOf_eq h] at x
  cases x with
  | @tup b vs n ms e no z r =>
    refine ⟨b, rfl, ⟨_, vs.toArray, n, e, rfl, rfl, ?_⟩, no⟩
    cases r with
    | cons r1 r =>
      cases r with
      | cons r2 r =>
        cases r
        cases r1
        cases r2
        exact .cons (by simp [intKind, Value.isInt]) (.cons (by simp [intKind, Value.isInt]) .nil)
theorem DRs.atKey {es : List (Key × Val)} {xs : List (List Int × Addr × Value)} (r : DRs cx ρ s.heap es xs) (k : Key) :
    match dget es k, atKey xs [k.1, k.2] with
    | some m, some p => VR cx ρ s.heap m p.2
    | none, none => True
    | _, _ => False := by
  induction r with
  | nil => simp [dget, PySem.atKey]
  | @cons k' v' b x es xs a n _ ih =>
    by_cases q : k' = k
    · subst q
      simp [dget, PySem.atKey, a]
    · have q' : ¬ ([k'.1, k'.2] = [k.1, k.2]) := fun e => q (by
        simp only [List.cons.injEq, and_true] at e
        exact Prod.ext e.1 e.2)
      have q2 : (k == k') = false := by simpa using fun e : k = k' => q e.symm
      have e1 : dget ((k', v') :: es) k = dget es k := by simp [dget, List.lookup_cons, q2]
      have e2 : PySem.atKey (([k'.1, k'.2], b, x) :: xs) [k.1, k.2] = PySem.atKey xs [k.1, k.2] := by
        unfold PySem.atKey
        rw [List.find?_cons]
        simp only [decide_eq_false q']
      rw [e1, e2]
      exact ih
theorem DRs.isSome {es : List (Key × Val)} {xs : List (List Int × Addr × Value)} (r : DRs cx ρ s.heap es xs) (k : Key) : (PySem.atKey xs [k.1, k.2]).isSome = (dget es k).isSome := by
  have := r.atKey k
  cases h1 : dget es k <;> cases h2 : PySem.atKey xs [k.1, k.2] <;> simp_all
theorem not_sysModules (R : Rel cx H ρ s) {l : Nat} {p : Addr × Addr} (hρ : ρ[l]? = some p) : (p.1 == sysModules) = false := by
  obtain ⟨o, e⟩ := R.sys
  have := (R.new p (List.mem_of_getElem? hρ)).1
  simpa using fun w : p.1 = sysModules => by rw [w, e] at this; cases this

set_option tactic.hygienic true in
theorem wp_in (R : Rel cx H ρ s) (x : VR cx ρ s.heap a v) (y : VR cx ρ s.heap b w) {r : Bool} (e : inV a b H = some r) (hu : A.units + 100 < cLine) {Q : Value → Shared → Prop} {E : Value → Shared → Prop} (k : ∀ tk, Q (.bool r) { s with toks := tk }) :
    wpAny (model cx.prog cx.w) A (compareOp .In v w) Q E s := by
  cases y with
  | @loc l p hp =>
    simp only [inV] at e
    split at e
    · rename_i ys hl
      obtain ⟨vs, n, _, g, rr, _⟩ := R.listAt hl hp
      unfold inList at e
      split at e
      · rename_i d ds e1 e2
        cases e
        obtain ⟨⟨as, g1⟩, g2, g3⟩ := reads_data R deep x e1
        obtain ⟨⟨bs, f1⟩, f2, f3⟩ := reads_dats (n := deep) (fun x h => reads_data R deep x h) rr e2
        refine SeqAt.in_list_reads (.list g rfl rfl (by simpa using f1)) g1 f2 g2 ?_ (k s.toks)
        have := Nat.min_le_right (PyData.depthAll ds) d.depth
        have : deep = 6 := rfl
        omega
      · cases e
    · rename_i es hl
      split at e
      · rename_i kk ek
        cases e
        obtain ⟨xs, _, D, rr, _⟩ := R.dictAt hl hp
        obtain ⟨bb, rfl, hk, _⟩ := key_is x ek
        refine wpAny_in_heap (knd := cellKind cx) (tupleKind_room_in1 (by omega)) hk (not_sysModules R hp) D ?_
        rw [rr.isSome]; exact k _
      · cases e
    · cases e
  | str y t z =>
    cases x with
    | str x t' z' =>
      simp [inV] at e; subst e
      exact SB.contains (k s.toks)
    | _ => cases e
  | _ => cases e
set_option tactic.hygienic true in
theorem wp_notin (R : Rel cx H ρ s) (x : VR cx ρ s.heap a v) (y : VR cx ρ s.heap b w) {r : Bool} (e : inV a b H = some r) (hu : A.units + 100 < cLine) {Q : Value → Shared → Prop} {E : Value → Shared → Prop} (k : ∀ tk, Q (.bool (!r)) { s with toks := tk }) :
    wpAny (model cx.prog cx.w) A (compareOp .NotIn v w) Q E s := by
  cases y with
  | @loc l p hp =>
    simp only [inV] at e
    split at e
    · rename_i ys hl
      obtain ⟨vs, n, _, g, rr, _⟩ := R.listAt hl hp
      unfold inList at e
      split at e
      · rename_i d ds e1 e2
        cases e
        obtain ⟨⟨as, g1⟩, g2, g3⟩ := reads_data R deep x e1
        obtain ⟨⟨bs, f1⟩, f2, f3⟩ := reads_dats (n := deep) (fun x h => reads_data R deep x h) rr e2
        refine SeqAt.notIn_list_reads (.list g rfl rfl (by simpa using f1)) g1 f2 g2 ?_ (k s.toks)
        have := Nat.min_le_right (PyData.depthAll ds) d.depth
        have : deep = 6 := rfl
        omega
      · cases e
    · rename_i es hl
      split at e
      · rename_i kk ek
        cases e
        obtain ⟨xs, _, D, rr, _⟩ := R.dictAt hl hp
        obtain ⟨bb, rfl, hk, _⟩ := key_is x ek
        refine PyProof.Rows.wpAny_notIn_heap (knd := cellKind cx) (tupleKind_room_in1 (by omega)) hk (not_sysModules R hp) D ?_
        rw [rr.isSome]; exact k _
      · cases e
    · cases e
  | str y t z =>
    cases x with
    | str x t' z' =>
      simp [inV] at e; subst e
      exact SB.notContains (k s.toks)
    | _ => cases e
  | _ => cases e

/-! ## data without a heap -/
set_option tactic.hygienic true in
theorem dats_mono {f g : Val → Option PyData} (h : ∀ m d, f m = some d → g m = some d) : ∀ {xs : List Val} {ds : List PyData}, dats f xs = some ds → dats g xs = some ds
  | [], ds, e => by simpa [dats] using e
  | x :: xs, ds, e => by
    simp only [dats] at e ⊢
    split at e
    · rename_i d ds' e1 e2
      cases e
      rw [h _ _ e1, dats_mono h e2]
    · cases e
theorem data_nil : ∀ (n : Nat) (m : Val) (d : PyData), dataOf [] n m = some d → dataOf H n m = some d
  | 0, m, d, e => by cases m <;> exact e
  | n + 1, m, d, e => by
    cases m with
    | tup vs =>
      obtain ⟨ds, e1, e2⟩ := Option.map_eq_some_iff.mp e
      exact Option.map_eq_some_iff.mpr ⟨ds, dats_mono (data_nil n) e1, e2⟩
    | loc l => cases e
    | _ => exact e
set_option tactic.hygienic true in
theorem eq_nil {r : Bool} (h : pyEq [] a b = some r) : pyEq H a b = some r := by
  unfold pyEq at h ⊢
  split at h
  · rename_i d1 d2 e1 e2
    rw [data_nil _ _ _ e1, data_nil _ _ _ e2]; exact h
  · cases h
theorem VR.tup_inv {h : Heap} {ms : List Val} (x : VR cx ρ h (.tup ms) v) : ∃ p vs n, v = .ref p ∧ h.get? p = some (tupO vs n) ∧ VRs cx ρ h ms vs := by cases x; exact ⟨_, _, _, rfl, by assumption, by assumption⟩
set_option tactic.hygienic true in
theorem wp_eqBool (R : Rel cx H ρ s) (x : VR cx ρ s.heap a v) (y : VR cx ρ s.heap b w) {r : Bool} (e : pyEq H a b = some r) (hu : A.units + 10 < cLine) {Q : Bool → Shared → Prop} {E : Value → Shared → Prop} (k : Q r s) :
    wpAny (model cx.prog cx.w) A (eqBool v w) Q E s := by
  unfold pyEq at e
  split at e
  · rename_i d1 d2 e1 e2
    cases e
    obtain ⟨⟨as, g1⟩, g2, g3⟩ := reads_data R deep x e1
    obtain ⟨⟨bs, f1⟩, f2, f3⟩ := reads_data R deep y e2
    refine SeqAt.eqBoolOverData _ _ _ _ _ _ _ _ _ _ _ _ g1 f1 g2 f2 ?_ k
    have := Nat.min_le_left d1.depth d2.depth
    have : deep = 6 := rfl
    omega
  · cases e
theorem lts_cons {e f : Val → Val → Option Bool} {x y : Val} {xs ys : List Val} {r : Bool} (h : lts e f (x :: xs) (y :: ys) = some r) : (e x y = some true ∧ lts e f xs ys = some r) ∨ (e x y = some false ∧ f x y = some r) := by
  unfold lts at h
  split at h
  · exact .inl ⟨by assumption, h⟩
  · exact .inr ⟨by assumption, h⟩
  · cases h
/- `<` of numbers, or of tuples of the same make -/
set_option tactic.hygienic true in
theorem wp_ltN (R : Rel cx H ρ s) : ∀ (n : Nat) (A : Around) (a b : Val) (v w : Value) (r : Bool) (Q : Value → Shared → Prop) (E : Value → Shared → Prop), VR cx ρ s.heap a v → VR cx ρ s.heap b w → pyLt n a b = some r → A.units + 20 + n < cLine → Q (.bool r) s → wpAny (model cx.prog cx.w) A (richCompare .Lt v w) Q E s
  | 0, _, _, _, _, _, _, _, _, _, _, h, _, _ => by cases h
  | n + 1, A, a, b, v, w, r, Q, E, x, y, h, hu, k => by
    unfold pyLt at h
    split at h
    · obtain ⟨t, rfl⟩ := x.int_inv
      obtain ⟨u, rfl⟩ := y.int_inv
      cases h
      exact PyProof.Rows.lt_int k
    · rename_i ms ks
      obtain ⟨p, vs, n1, rfl, g1, r1⟩ := x.tup_inv
      obtain ⟨q, ws, n2, rfl, g2, r2⟩ := y.tup_inv
      have T1 : s.TypeIs (.ref p) "tuple" := ⟨_, g1, rfl⟩
      have T2 : s.TypeIs (.ref q) "tuple" := ⟨_, g2, rfl⟩
      refine wpAny_richCompare_same_room (T := "tuple") T1 T2 F.slot_tuple_lt (wpAny_call_entry F.slot_tuple_lt T1 F.entry_tuple_lt ?_ (F.args_tuple_lt_2 _ _)) (by omega)
      have fin : ∀ (z : Bool), z = r → (∃ v, (Fin.done (.ret (.bool z)) : Fin) = .done (.ret v) ∧ v ≠ .notImplemented ∧ Q v s) := fun z e => ⟨.bool z, rfl, by simp, by rw [e]; exact k⟩
      show wpAny _ _ (isInstance (.ref q) (.type "tuple") >>= _) _ _ s
      refine wpAny_bind (wpAny_isInstance T2 isSubtype_tuple_tuple ?_)
      simp only [Bool.not_true, Bool.false_eq_true, if_false]
      refine wpAny_bind (wpAny_tupleItemsOf g1 rfl ?_)
      refine wpAny_bind (wpAny_tupleItemsOf g2 rfl ?_)
      refine wpAny_bind ?_
      refine wpAny_forIn_list _
        (fun rest z s' => z.1 = none ∧ s' = s ∧ ∃ ms' ks' vs' ws', rest = List.zip vs' ws' ∧ VRs cx ρ s.heap ms' vs' ∧ VRs cx ρ s.heap ks' ws' ∧ lts (pyEq []) (pyLt n) ms' ks' = some r ∧ decide (vs'.length < ws'.length) = decide (vs.toArray.size < ws.toArray.size))
        _ ?_ ?_ _ _ ⟨rfl, rfl, ms, ks, vs, ws, rfl, r1, r2, h, by simp⟩
      · rintro ⟨c, e⟩ rest z s' ⟨hz, hs', ms', ks', vs', ws', hzip, q1, q2, hl, hlen⟩
        rw [hs']
        clear hs' s'
        cases q1 with
        | nil => simp at hzip
        | cons a1 q1 =>
          cases q2 with
          | nil => simp at hzip
          | cons a2 q2 =>
            simp only [List.zip_cons_cons, List.cons.injEq, Prod.mk.injEq] at hzip
            obtain ⟨⟨rfl, rfl⟩, rfl⟩ := hzip
            rcases lts_cons hl with ⟨he, hl'⟩ | ⟨he, hl'⟩
            · refine wpAny_bind (wp_eqBool R a1 a2 (eq_nil he) (by simp only [Around.in1_units]; omega) ?_)
              simp only [Bool.not_true, Bool.false_eq_true, if_false]
              exact wpAny_pure ⟨rfl, rfl, _, _, _, _, rfl, q1, q2, hl', by simpa using hlen⟩
            · refine wpAny_bind (wp_eqBool R a1 a2 (eq_nil he) (by simp only [Around.in1_units]; omega) ?_)
              simp only [Bool.not_false, if_true]
              refine wpAny_bind (wpAny_rule ?_)
              refine wpAny_bind (wp_ltN R n A.in1 _ _ _ _ r _ _ a1 a2 hl' (by simp only [Around.in1_units]; omega) ?_)
              exact wpAny_bind (wpAny_pure (wpAny_pure (wpAny_pure (fin r rfl))))
      · rintro ⟨z1, z2⟩ s' ⟨hz, hs', ms', ks', vs', ws', hzip, q1, q2, hl, hlen⟩
        rw [hs']
        clear hs' s'
        simp only at hz
        subst hz
        refine wpAny_pure ?_
        refine fin _ ?_
        rw [← hlen]
        cases q1 with
        | nil =>
          cases q2 with
          | nil => simp [lts] at hl ⊢; exact hl
          | cons a2 q2 => simp [lts] at hl ⊢; exact hl
        | cons a1 q1 =>
          cases q2 with
          | nil => simp [lts] at hl ⊢; exact hl
          | cons a2 q2 => simp at hzip
    · cases h
theorem int2 {p : Int → Int → Bool} {r : Bool} (e : (match a, b with | .int x, .int y => some (p x y) | _, _ => none) = some r) : ∃ x y, a = .int x ∧ b = .int y ∧ r = p x y := by
  split at e
  · cases e; exact ⟨_, _, rfl, rfl, rfl⟩
  · cases e
theorem int_le {r : Bool} (e : cmpV .le a b H = some r) : ∃ x y, a = .int x ∧ b = .int y ∧ r = decide (x ≤ y) := int2 e
theorem int_gt {r : Bool} (e : cmpV .gt a b H = some r) : ∃ x y, a = .int x ∧ b = .int y ∧ r = decide (x > y) := int2 e
theorem sim_cmp (hu : A.units + 100 < cLine) {op : COp} (h1 : ∀ ρ h, P.P ρ h → VR cx ρ h a v) (h2 : ∀ ρ h, P.P ρ h → VR cx ρ h b w) :
    Sim cx A P (compareOp (cmOp op) v w) ((M.look (cmpV op a b)).bnd fun r => M.ret (Val.bool r)) (Amb.vr cx) := by
  intro H ρ s R p
  have x1 := h1 _ _ p
  have x2 := h2 _ _ p
  show SimAt cx A (M.bnd (M.look (cmpV op a b)) _ H) _ _ ρ s
  cases e : cmpV op a b H with
  | none => rw [bnd_bad (show M.look (cmpV op a b) H = .bad by unfold M.look; rw [e])]; trivial
  | some r =>
    rw [bnd_ok (show M.look (cmpV op a b) H = .ok r H by unfold M.look; rw [e])]
    refine simAt_pure R fun Q E k => ?_
    have k' : ∀ tk, Q (.bool r) { s with toks := tk } := fun tk => k _ tk (.bool r)
    cases op with
    | eq => exact wp_eq R x1 x2 e hu (k' s.toks)
    | ne =>
      obtain ⟨r', e', rfl⟩ := flip_some e
      exact wp_ne R x1 x2 e' hu (k' s.toks)
    | lt => exact wp_ltN R deep A a b v w r _ _ x1 x2 e (by show A.units + 20 + 6 < cLine; omega) (k' s.toks)
    | le =>
      obtain ⟨x, y, rfl, rfl, rfl⟩ := int_le e
      cases x1 with | int _ t1 => cases x2 with | int _ t2 => exact PyProof.Rows.le_int (k' s.toks)
    | gt =>
      obtain ⟨x, y, rfl, rfl, rfl⟩ := int_gt e
      cases x1 with | int _ t1 => cases x2 with | int _ t2 => exact PyProof.Rows.gt_int (k' s.toks)
    | is =>
      have e' : isV a b = some r := e
      cases x2 with
      | none => rw [isV_none_val x1 e'] at k'; exact is_none (k' s.toks)
      | bool y =>
        obtain ⟨q1, q2⟩ := isV_bool_val x1 e'
        rw [q2] at k'
        exact wpAny_is_plain q1 (k' s.toks)
      | _ => cases e'
end
end Mine

-- part MSub
namespace Mine
open PySem PyProof.Rows

theorem subscripted_any (slice : Expr) (o i : Value) : ∃ ops, subscripted slice false o i = operate ops (getItem o i) := by
  unfold subscripted
  split
  · exact ⟨_, rfl⟩
  · exact absurd (by assumption) Bool.false_ne_true
  · exact ⟨_, rfl⟩

set_option tactic.hygienic true in
theorem placeOf_seq {k : Int} {n p : Nat} (h : placeOf k n = some p) : seqIndex? k n = some p ∧ p < n ∧ -(n : Int) ≤ k ∧ k < n := by
  unfold placeOf at h
  split at h
  · split at h
    · cases h
      rename_i h0 h1
      exact ⟨seqIndex_of h0 h1, by omega, by omega, h1⟩
    · cases h
  · split at h
    · cases h
      rename_i h0 h1
      exact ⟨seqIndex_neg (by omega) h1, by omega, h1, by omega⟩
    · cases h

section
variable {cx : Cx} {A : Around} {P : Amb} {a b : Val} {v w : Value} {H : Hp} {ρ : Rho} {s : Shared}

set_option tactic.hygienic true in
theorem wp_listItem {l : Addr} {vs : List Value} {n : Nat} {k : Int} {u : Tok} {p : Nat} {x : Value} {Q : Value → Shared → Prop} {E : Value → Shared → Prop} (g : s.heap.get? l = some (listO vs n)) (z : vs.length ≤ sizeLine) (hp : placeOf k vs.length = some p) (hx : vs[p]? = some x) (h : Q x s) :
    wpAny (model cx.prog cx.w) A (getItem (.ref l) (.int k u)) Q E s := by
  have L : s.heap.IsList l vs.toArray := ⟨_, g, rfl, n, rfl⟩
  rw [sizeLine_eq] at z
  unfold placeOf at hp
  split at hp
  · split at hp
    · cases hp
      rename_i h0 h1
      exact wpAny_getItem_list L h0 (by omega) (by simpa using hx) h
    · cases hp
  · split at hp
    · cases hp
      rename_i h0 h1
      exact wpAny_getItem_list_neg L (by omega) (by simpa using h1) (by omega) (by simpa using hx) h
    · cases hp

set_option tactic.hygienic true in
theorem sim_subTail {value slice : Expr} (hu : A.units + 100 < cLine) (h1 : ∀ ρ h, P.P ρ h → VR cx ρ h a v) (h2 : ∀ ρ h, P.P ρ h → VR cx ρ h b w) : Sim cx A P (subscriptTail value slice v w) (subV a b) (Amb.vr cx) := by
  obtain ⟨ops, hops⟩ := subscripted_any slice v w
  refine Sim.look fun H ρ s r R p e Q E k => ?_
  have x1 := h1 _ _ p
  have x2 := h2 _ _ p
  cases x1 with
  | @loc l q hq =>
    simp only at e
    split at e
    · rename_i xs i hl
      obtain ⟨vs, n, _, g, rr, z⟩ := R.listAt hl hq
      cases x2 with
      | int i u =>
        simp only [Option.bind_eq_some_iff] at e
        obtain ⟨pl, e1, e2⟩ := e
        obtain ⟨x, ex, vx⟩ := rr.get e2
        have z' : vs.length ≤ sizeLine := by rw [← rr.length]; exact z
        exact tail_any (T := "list") (Heap.IsList.typeIs (s := s) ⟨_, g, rfl, n, rfl⟩) PySem.slot_list_getitem.lookup (wp_listItem g z' (by rw [← rr.length]; exact e1) ex (k _ s.toks vx)) hops
    · rename_i es i hl
      simp only [Option.bind_eq_some_iff] at e
      obtain ⟨kk, e1, e2⟩ := e
      obtain ⟨xs, _, D, rr, _⟩ := R.dictAt hl hq
      obtain ⟨bb, rfl, hk, _⟩ := key_is x2 e1
      have at' := rr.atKey kk
      rw [e2] at at'
      cases hp : atKey xs [kk.1, kk.2] with
      | none => rw [hp] at at'; exact at'.elim
      | some pr =>
        rw [hp] at at'
        exact tail_any (T := "dict") D.typeIs PySem.slot_dict_getitem.lookup (wpAny_getItem_heap (knd := cellKind cx) (tupleKind_room_in1 (by omega)) hk D hp (k _ _ at')) hops
    · cases e
  | @tup t vs n ms g no z rr =>
    cases x2 with
    | int i u =>
      simp only at e
      split at e
      · rename_i h0
        obtain ⟨x, ex, vx⟩ := rr.get e
        have lt := (List.getElem?_eq_some_iff.mp ex).1
        have z' : vs.length ≤ sizeLine := by rw [← rr.length]; exact z
        rw [sizeLine_eq] at z'
        refine tail_any (T := "tuple") (Heap.IsTuple.typeIs (s := s) ⟨_, g, rfl, n, rfl⟩) slot_tuple_getitem.lookup ?_ hops
        exact getItem_tuple (items := vs.toArray) ⟨_, g, rfl, n, rfl⟩ (by omega) (by omega) (seqIndex_of h0 (by simp only [List.size_toArray]; omega)) (by simpa using ex) (k _ s.toks vx)
      · cases e
    | _ => cases e
  | @script t vs n ns g z rr =>
    cases x2 with
    | int i u =>
      simp only [Option.bind_eq_some_iff, Option.map_eq_some_iff] at e
      obtain ⟨pl, e1, ii, e2, rfl⟩ := e
      obtain ⟨x, ex, vx⟩ := rr.get (k := pl) (m := .int ii) (by rw [List.getElem?_map, e2]; rfl)
      have len : ns.length = vs.length := by rw [← rr.length, List.length_map]
      exact tail_any (T := "list") (Heap.IsList.typeIs (s := s) ⟨_, R.base _ _ g, rfl, n, rfl⟩) PySem.slot_list_getitem.lookup (wp_listItem (R.base _ _ g) (by rw [← len]; exact z) (by rw [← len]; exact e1) ex (k _ s.toks vx)) hops
    | _ => cases e
  | str x t z =>
    cases x2 with
    | int i u =>
      simp only [Option.bind_eq_some_iff, Option.map_eq_some_iff] at e
      obtain ⟨pl, e1, c, e2, rfl⟩ := e
      obtain ⟨q1, q2, q3, q4⟩ := placeOf_seq e1
      rw [sizeLine_eq] at z
      refine tail_any (T := "str") (typeIs_str s x t) PyProof.Rows.slot_str_getitem.lookup ?_ hops
      refine PyProof.Rows.getItem_str (c := c) ?_ (by rw [q1]; exact e2) (k _ _ (.str _ _ (by show 1 ≤ sizeLine; decide)))
      simp only [Bool.or_eq_false_iff, decide_eq_false_iff_not]
      omega
    | _ => cases e
  | _ => cases e
end
end Mine

-- part MBf
namespace Mine
open PySem

section
variable {cx : Cx} {A : Around} {P : Amb} {a b : Val} {v w : Value} {H : Hp} {ρ : Rho} {s : Shared}

/- the kind of a value, as the model sees it -/
noncomputable def KdIs (s : Shared) (v : Value) : Kd → Prop
  | .none => v = .none
  | .bool => ∃ b, v = .bool b
  | .int => ∃ i t, v = .int i t
  | .str => ∃ y t, v = .str y t
  | .tuple => ∃ p o, v = .ref p ∧ s.heap.get? p = some o ∧ o.cls = .type "tuple"
  | .list => ∃ p o, v = .ref p ∧ s.heap.get? p = some o ∧ o.cls = .type "list"
  | .dict => ∃ p o, v = .ref p ∧ s.heap.get? p = some o ∧ o.cls = .type "dict"
set_option tactic.hygienic true in
theorem kd_is (R : Rel cx H ρ s) (x : VR cx ρ s.heap a v) {k : Kd} (e : kdOf H a = some k) : KdIs s v k := by
  cases x with
  | none => cases e; rfl
  | bool b => cases e; exact ⟨_, rfl⟩
  | int i t => cases e; exact ⟨_, _, rfl⟩
  | str y t z => cases e; exact ⟨_, _, rfl⟩
  | tup g _ _ _ => cases e; exact ⟨_, _, rfl, g, rfl⟩
  | script g _ _ => cases e; exact ⟨_, _, rfl, R.base _ _ g, rfl⟩
  | @loc l p hp =>
    have e : (match H[l]? with | some (.list _) => some Kd.list | some (.dict _) => some Kd.dict | _ => none) = some k := e
    split at e
    · rename_i xs hl
      cases e
      obtain ⟨vs, n, _, g, _⟩ := R.listAt hl hp
      exact ⟨_, _, rfl, g, rfl⟩
    · rename_i es hl
      cases e
      obtain ⟨xs, _, D, _⟩ := R.dictAt hl hp
      obtain ⟨o, _, _, g, ex, _⟩ := D
      exact ⟨_, _, rfl, g, ex.1⟩
    · cases e
  | rng => cases e
  | exc => cases e

noncomputable def tyVal : Ty → Value
  | .int => .type "int"
  | .bool => .type "bool"
  | .str => .type "str"
  | .tuple => .type "tuple"
  | .list => .type "list"
  | .cls _ => .none
theorem wp_isi (R : Rel cx H ρ s) (x : VR cx ρ s.heap a v) {k : Kd} (e : kdOf H a = some k) {t : Ty} (ht : ∀ c, t ≠ .cls c) {Q : Value → Shared → Prop} {E : Value → Shared → Prop} (q : ∀ tk, Q (.bool (isKd t k)) { s with toks := tk }) :
    wpAny (model cx.prog cx.w) A (call (.builtin "isinstance") [v, tyVal t]) Q E s := by
  have d := kd_is R x e
  cases k <;> cases t
  case none.cls | bool.cls | int.cls | str.cls | tuple.cls | list.cls | dict.cls => exact absurd rfl (ht _)
  all_goals dsimp only [KdIs] at d
  case none.int => subst d; exact IsiPair.NoneType_int (q _)
  case none.bool => subst d; exact IsiPair.NoneType_bool (q _)
  case none.str => subst d; exact IsiPair.NoneType_str (q _)
  case none.tuple => subst d; exact IsiPair.NoneType_tuple (q _)
  case none.list => subst d; exact IsiPair.NoneType_list (q _)
  case bool.int => obtain ⟨b, rfl⟩ := d; exact IsiPair.bool_int (q _)
  case bool.bool => obtain ⟨b, rfl⟩ := d; exact IsiPair.bool_bool (q _)
  case bool.str => obtain ⟨b, rfl⟩ := d; exact IsiPair.bool_str (q _)
  case bool.tuple => obtain ⟨b, rfl⟩ := d; exact IsiPair.bool_tuple (q _)
  case bool.list => obtain ⟨b, rfl⟩ := d; exact IsiPair.bool_list (q _)
  case int.int => obtain ⟨i, u, rfl⟩ := d; exact IsiPair.int_int (q _)
  case int.bool => obtain ⟨i, u, rfl⟩ := d; exact IsiPair.int_bool (q _)
  case int.str => obtain ⟨i, u, rfl⟩ := d; exact IsiPair.int_str (q _)
  case int.tuple => obtain ⟨i, u, rfl⟩ := d; exact IsiPair.int_tuple (q _)
  case int.list => obtain ⟨i, u, rfl⟩ := d; exact IsiPair.int_list (q _)
  case str.int => obtain ⟨i, u, rfl⟩ := d; exact IsiPair.str_int (q _)
  case str.bool => obtain ⟨i, u, rfl⟩ := d; exact IsiPair.str_bool (q _)
  case str.str => obtain ⟨i, u, rfl⟩ := d; exact IsiPair.str_str (q _)
  case str.tuple => obtain ⟨i, u, rfl⟩ := d; exact IsiPair.str_tuple (q _)
  case str.list => obtain ⟨i, u, rfl⟩ := d; exact IsiPair.str_list (q _)
  case tuple.int => obtain ⟨p, o, rfl, g, c⟩ := d; exact IsiPair.tuple_int g c (q _)
  case tuple.bool => obtain ⟨p, o, rfl, g, c⟩ := d; exact IsiPair.tuple_bool g c (q _)
  case tuple.str => obtain ⟨p, o, rfl, g, c⟩ := d; exact IsiPair.tuple_str g c (q _)
  case tuple.tuple => obtain ⟨p, o, rfl, g, c⟩ := d; exact IsiPair.tuple_tuple g c (q _)
  case tuple.list => obtain ⟨p, o, rfl, g, c⟩ := d; exact IsiPair.tuple_list g c (q _)
  case list.int => obtain ⟨p, o, rfl, g, c⟩ := d; exact IsiPair.list_int g c (q _)
  case list.bool => obtain ⟨p, o, rfl, g, c⟩ := d; exact IsiPair.list_bool g c (q _)
  case list.str => obtain ⟨p, o, rfl, g, c⟩ := d; exact IsiPair.list_str g c (q _)
  case list.tuple => obtain ⟨p, o, rfl, g, c⟩ := d; exact IsiPair.list_tuple g c (q _)
  case list.list => obtain ⟨p, o, rfl, g, c⟩ := d; exact IsiPair.list_list g c (q _)
  case dict.int => obtain ⟨p, o, rfl, g, c⟩ := d; exact IsiPair.dict_int g c (q _)
  case dict.bool => obtain ⟨p, o, rfl, g, c⟩ := d; exact IsiPair.dict_bool g c (q _)
  case dict.str => obtain ⟨p, o, rfl, g, c⟩ := d; exact IsiPair.dict_str g c (q _)
  case dict.tuple => obtain ⟨p, o, rfl, g, c⟩ := d; exact IsiPair.dict_tuple g c (q _)
  case dict.list => obtain ⟨p, o, rfl, g, c⟩ := d; exact IsiPair.dict_list g c (q _)

/- what a built-in function's name leads to -/
noncomputable def bfVal : BF → Value
  | .len => .builtin "len"
  | .range => .type "range"
  | .list => .type "list"
  | .tuple => .type "tuple"
  | .abs => .builtin "abs"
  | .sortedSet => .none

set_option tactic.hygienic true in
theorem items_at (R : Rel cx H ρ s) (x : VR cx ρ s.heap a v) {xs : List Val} (e : itemsOf a H = some xs) :
    (∃ p vs n, v = .ref p ∧ s.heap.get? p = some (listO vs n) ∧ VRs cx ρ s.heap xs vs ∧ xs.length ≤ sizeLine) ∨ (∃ p vs n, v = .ref p ∧ s.heap.get? p = some (tupO vs n) ∧ VRs cx ρ s.heap xs vs ∧ xs.length ≤ sizeLine) := by
  cases x with
  | @tup p vs n ms g no z r => cases e; exact .inr ⟨_, _, _, rfl, g, r, z⟩
  | @script p vs n ns g z r => cases e; exact .inl ⟨_, _, _, rfl, R.base _ _ g, r, by rw [List.length_map]; exact z⟩
  | @loc l p hp =>
    simp only [itemsOf] at e
    split at e
    · rename_i ys hl
      cases e
      obtain ⟨vs, n, _, g, r, z⟩ := R.listAt hl hp
      exact .inl ⟨_, _, _, rfl, g, r, z⟩
    · cases e
  | _ => cases e

theorem sim_len (h1 : ∀ ρ h, P.P ρ h → VR cx ρ h a v) : Sim cx A P (call (.builtin "len") [v]) (bfV .len [a]) (Amb.vr cx) := by
  refine Sim.look fun H ρ s r R p e Q E k => ?_
  have x := h1 _ _ p
  have gen : ∀ xs, itemsOf a H = some xs → r = .int xs.length → wpAny (model cx.prog cx.w) A (call (.builtin "len") [v]) Q E s := by
    intro xs e' hr
    subst hr
    rcases items_at R x e' with ⟨p, vs, n, rfl, g, rr, z⟩ | ⟨p, vs, n, rfl, g, rr, z⟩
    · rw [sizeLine_eq] at z
      rw [rr.length] at z k
      refine PyProof.Rows.len_list (items := vs.toArray) ⟨_, g, rfl, n, rfl⟩ (by simp only [List.size_toArray]; omega) ?_
      simp only [List.size_toArray]
      exact k _ _ (.int _ _)
    · rw [sizeLine_eq] at z
      rw [rr.length] at z k
      refine PyProof.Rows.len_tuple (items := vs.toArray) ⟨_, g, rfl, n, rfl⟩ (by simp only [List.size_toArray]; omega) ?_
      simp only [List.size_toArray]
      exact k _ _ (.int _ _)
  cases x with
  | str y t z =>
    simp only [Option.some.injEq] at e
    subst e
    rw [sizeLine_eq] at z
    exact PyProof.Rows.len_str (by omega) (k _ _ (.int _ _))
  | _ =>
    simp only [Option.map_eq_some_iff] at e
    obtain ⟨xs, e1, rfl⟩ := e
    exact gen xs e1 rfl

theorem sim_range (h1 : ∀ ρ h, P.P ρ h → VR cx ρ h a v) : Sim cx A P (call (.type "range") [v]) (bfV .range [a]) (Amb.vr cx) := by
  intro H ρ s R p
  have x := h1 _ _ p
  cases x with
  | int i t =>
    show SimAt cx A ((if -1073741824 ≤ i ∧ i ≤ 1073741824 then M.ret (Val.rng i) else M.bad) H) _ _ ρ s
    by_cases q : -1073741824 ≤ i ∧ i ≤ 1073741824
    · rw [if_pos q]
      have F := Full.push ρ s.heap { cls := .type "range", data := .fields #[.int 0 s.toks, .int i t, .int 1 (s.toks + 1)] }
      exact call_range_1 ⟨ρ, F, R.push _ _, .rng (IsRange.new _ _ _ _ _ _ _) (R.fresh_not (fresh_none _)) (by omega) (by omega)⟩
    · rw [if_neg q]; trivial
  | _ => trivial
theorem sim_abs (h1 : ∀ ρ h, P.P ρ h → VR cx ρ h a v) : Sim cx A P (call (.builtin "abs") [v]) (bfV .abs [a]) (Amb.vr cx) := by
  intro H ρ s R p
  have x := h1 _ _ p
  cases x with
  | int i t =>
    refine simAt_pure (b := Val.int i.natAbs) R fun Q E k => PyProof.Rows.call_abs_int fun u tk => ?_
    have e : (if i < 0 then -i else i) = (i.natAbs : Int) := by split <;> omega
    rw [e]
    exact k _ _ (.int _ _)
  | _ => trivial
/- a new list at a heap that keeps all -/
theorem simAt_listK {t : Sem Value} {xs : List Val} (R : Rel cx H ρ s) (z : xs.length ≤ sizeLine)
    (k : ∀ (Q : Value → Shared → Prop) (E : Value → Shared → Prop), (∀ h' tk vs n, (∀ b o, s.heap.get? b = some o → h'.get? b = some o) → h'.get? s.heap.objs.size = some (listO vs n) → (∀ ρ', Step ρ s.heap ρ' h' → VRs cx ρ' h' xs vs) → Q (.ref s.heap.objs.size) { s with heap := h', toks := tk }) → wpAny (model cx.prog cx.w) A t Q E s) :
    SimAt cx A (.ok (.loc H.length) (H ++ [.list xs])) t (Amb.vr cx) ρ s := by
  refine k _ _ fun h' tk vs n kp e r => ?_
  obtain ⟨F, R'⟩ := R.alloc (tk := tk) (o := .list xs) (p := (s.heap.objs.size, s.heap.objs.size)) kp ⟨fresh_none _, fresh_none _⟩
    (.list (n := n) e (r _ (Full.alloc kp ⟨fresh_none _, fresh_none _⟩).step) z)
  refine ⟨_, F, R', ?_⟩
  rw [R.len]
  exact VR.loc (p := (s.heap.objs.size, s.heap.objs.size)) (by rw [List.getElem?_append_right (Nat.le_refl _)]; simp)
theorem vrs_ints {xs : List Val} {vs : List Value} (n : Nat) (hx : xs.length = n) (hv : vs.length = n) (h : ∀ i (hi : i < n), ∃ t, xs[i]? = some (.int (i : Int)) ∧ vs[i]? = some (.int (i : Int) t)) (ρ : Rho) (hp : Heap) : VRs cx ρ hp xs vs := by
  have gen : ∀ (xs : List Val) (vs : List Value), xs.length = vs.length → (∀ i, i < xs.length → ∃ j t, xs[i]? = some (.int j) ∧ vs[i]? = some (.int j t)) → VRs cx ρ hp xs vs := by
    intro xs
    induction xs with
    | nil => intro vs h _; cases vs with
      | nil => exact .nil
      | cons _ _ => simp at h
    | cons x xs ih =>
      intro vs h k
      cases vs with
      | nil => simp at h
      | cons v vs =>
        obtain ⟨j, t, e1, e2⟩ := k 0 (by simp)
        simp at e1 e2
        subst e1 e2
        refine .cons (.int _ _) (ih vs (by simpa using h) fun i hi => ?_)
        obtain ⟨j', t', e1, e2⟩ := k (i + 1) (by simpa using hi)
        exact ⟨j', t', by simpa using e1, by simpa using e2⟩
  refine gen xs vs (hx.trans hv.symm) fun i hi => ?_
  obtain ⟨t, e1, e2⟩ := h i (by omega)
  exact ⟨_, t, e1, e2⟩

set_option tactic.hygienic true in
theorem sim_listOf (hh : A.handled = none) (h1 : ∀ ρ h, P.P ρ h → VR cx ρ h a v) : Sim cx A P (call (.type "list") [v]) (bfV .list [a]) (Amb.vr cx) := by
  intro H ρ s R p
  have x := h1 _ _ p
  cases x with
  | @rng q i t u w g no z1 z2 =>
    show SimAt cx A (if i ≤ 100000 then M.alloc (.list ((List.range i.toNat).map fun (k : Nat) => .int (k : Int))) H else .bad) _ _ ρ s
    by_cases hi : i ≤ 100000
    · rw [if_pos hi]
      refine simAt_listK R (by rw [List.length_map, List.length_range, sizeLine_eq]; omega) fun Q E k => ?_
      refine call_list_range (n := i.toNat) hh g (small_one (by omega) (by omega) z1 z2) (by rw [rangeSize_one]; split <;> omega) (by omega) fun h' tk acc c kp e it => ?_
      refine k h' tk acc.toList c kp (by simpa [listO] using e) fun ρ' _ => vrs_ints i.toNat (by simp) ?_ (fun j hj => ?_) _ _
      · have := it.1; simpa using this
      · have lt : j < acc.size := by rw [it.1]; exact hj
        have e0 : acc[j]? = some acc[j] := Array.getElem?_eq_getElem lt
        obtain ⟨t, ht⟩ := it.2 j _ e0
        refine ⟨t, by simp [hj], ?_⟩
        rw [ht] at e0
        simpa using e0
    · rw [if_neg hi]; trivial
  | @loc l q hq =>
    show SimAt cx A (match itemsOf (.loc l) H with
      | some xs => M.alloc (.list xs) H
      | none => .bad) _ _ ρ s
    split
    · rename_i xs e
      simp only [itemsOf] at e
      split at e
      · rename_i ys hl
        cases e
        obtain ⟨vs, n, _, g, r, z⟩ := R.listAt hl hq
        refine simAt_listK R z fun Q E k => ?_
        refine call_list_seq q.1 (T := "list") (items := vs.toArray) (.inl rfl) g rfl rfl (fun h' c kp e => ?_) (by simp only [List.size_toArray]; rw [← r.length]; exact z)
        exact k h' s.toks vs c kp e fun ρ' st => r.step st
      · cases e
    · trivial
  | _ => trivial
set_option tactic.hygienic true in
theorem sim_tupleOf (h1 : ∀ ρ h, P.P ρ h → VR cx ρ h a v) : Sim cx A P (call (.type "tuple") [v]) (bfV .tuple [a]) (Amb.vr cx) := by
  intro H ρ s R p
  have x := h1 _ _ p
  cases x with
  | @loc l q hq =>
    show SimAt cx A (match itemsOf (.loc l) H with
      | some xs => Res.ok (Val.tup xs) H
      | none => .bad) _ _ ρ s
    split
    · rename_i xs e
      simp only [itemsOf] at e
      split at e
      · rename_i ys hl
        cases e
        obtain ⟨vs, n, _, g, r, z⟩ := R.listAt hl hq
        refine call_tuple_list (items := vs.toArray) ⟨_, g, rfl, n, rfl⟩ (fun h' kp => ?_) (by simp only [List.size_toArray]; rw [← r.length]; exact z)
        have F1 : Full ρ s.heap ρ h' := Full.more kp
        have R1 : Rel cx H ρ { s with heap := h', toks := s.toks } := R.more kp
        have F2 := Full.push ρ h' (tupO vs 0)
        exact ⟨ρ, F1.trans F2, R1.push _ _, .tup (Heap.get?_push_size _ rfl) (R1.fresh_not (fresh_none _)) z ((r.step F1.step).step F2.step)⟩
      · cases e
    · trivial
  | _ => trivial
end
end Mine

-- part MBm
namespace Mine
open PySem

set_option tactic.hygienic true in
theorem attributeBase_of {o : Expr} (h : notSuper o = true) (n : Str) (env : Env) (t : Sem Value) : attributeBase o n env t = t := by
  unfold attributeBase
  split
  · rename_i id _ pos
    have : (id != ("super" : Str)) = true := h
    rw [if_pos (by simp only [this, Bool.true_or])]
  · rfl

section
variable {cx : Cx} {A : Around} {P : Amb} {env : Env} {H : Hp} {ρ : Rho} {s : Shared}

/- no star among the arguments -/
noncomputable def plainArgs (env : Env) : List Expr → Prop
  | [] => True
  | e :: es => starEach (e :: es) env = (false, eval e env) :: starEach es env ∧ plainArgs env es
theorem plainArgs_trees {env : Env} : ∀ {xs : List Expr} (pos : Pos), plainArgs env xs → backTo pos (starEach xs env) = xs.map fun e => (false, eval e env)
  | [], pos, _ => rfl
  | e :: es, pos, h => by
    rw [h.1]
    have := plainArgs_trees pos h.2
    unfold backTo at this ⊢
    rw [List.map_cons, this]
    simp
theorem plainArgs_few {env : Env} {xs : List Expr} {pos : Pos} (h : plainArgs env xs) (z : xs.length ≤ 20) :
    ((backTo pos (starEach xs env)).all (fun x => !x.1) && (backToKw pos (keywordEach [] env)).all (fun x => x.1.isSome) && decide (xs.length + ([] : List Keyword).length + (if ([] : List Keyword).isEmpty then 0 else 1) < 30)) = true := by
  rw [plainArgs_trees pos h]
  simp only [Bool.and_eq_true, List.all_eq_true, List.mem_map, forall_exists_index, and_imp, decide_eq_true_eq]
  refine ⟨⟨fun x e _ hx => by rw [← hx]; rfl, ?_⟩, ?_⟩
  · intro x hx; exact absurd (show x ∈ [] from hx) List.not_mem_nil
  · simp; omega

/- a method of a list, dict or str is looked up -/
theorem simK_method {T id : String} {o : Expr} {name : Str} {apos pos : Pos} {args : List Expr} {m : M Val} {g : Val → M Val} (hs : notSuper o = true) (hp : plainArgs env args) (hz : args.length ≤ 20) (hline : (apos.endLine == pos.line) = true)
    (pa : PlainAttrs T) (slot : Slot T name id) (hty : typeOf (.builtin id) = pure (.type "method_descriptor"))
    (x : SimAt cx A (m H) (eval o env) (Amb.vr cx) ρ s)
    (y : ∀ b a H' ρ' s', m H = .ok b H' → Full ρ s.heap ρ' s'.heap → Rel cx H' ρ' s' → VR cx ρ' s'.heap b a →
      SimK cx (g b H') (fun Q E s₁ => s₁.TypeIs a T ∧ (∀ p, a = .ref p → ∃ ob, s₁.heap.get? p = some ob ∧ ob.dict = none) ∧ wpAny (model cx.prog cx.w) A (callWith pos (.builtin id) [a] (args.map fun e => (false, eval e env)) []) Q E s₁) (Amb.vr cx) ρ' s') :
    SimAt cx A (m.bnd g H) (eval (.Call (.Attribute o name apos) args [] pos) env) (Amb.vr cx) ρ s :=
  SimAt.bindK (K' := fun Q E s => wpAny (model cx.prog cx.w) A (eval (.Call (.Attribute o name apos) args [] pos) env) Q E s) x y
    (fun a Q E Q' E' s ⟨h1, h2, h3⟩ k1 k2 => ⟨h1, h2, wpAny_mono h3 k1 k2⟩)
    (fun Q E h => wpAny_Call_method (attributeBase_of hs _ _ _) (plainArgs_few hp hz) hline pa slot hty (by rw [plainArgs_trees pos hp]; exact h))

theorem SimK.andK {β α : Type} {r : Res β} {p : Prop} (hp : p) {K : (α → Shared → Prop) → (Value → Shared → Prop) → Shared → Prop} {V : β → α → Amb} (x : SimK cx r K V ρ s) : SimK cx r (fun Q E s' => p ∧ K Q E s') V ρ s := x.mono fun _ _ h => ⟨hp, h⟩

theorem list_head (R : Rel cx H ρ s) {l : Nat} {p : Addr × Addr} {xs : List Val} (hl : H[l]? = some (.list xs)) (hp : ρ[l]? = some p) : s.TypeIs (.ref p.1) "list" ∧ ∀ q, Value.ref p.1 = .ref q → ∃ ob, s.heap.get? q = some ob ∧ ob.dict = none := by
  obtain ⟨vs, n, _, g, _⟩ := R.listAt hl hp
  exact ⟨⟨_, g, rfl⟩, fun q e => by cases e; exact ⟨_, g, rfl⟩⟩

theorem mapSeq_list (vs : List Value) (n : Nat) (f : Array Value → Array Value) : ∃ n', Obj.mapSeq f (listO vs n) = listO (f vs.toArray).toList n' := by
  unfold listO Obj.mapSeq
  exact ⟨_, rfl⟩

/- a list is exchanged by an update -/
theorem simAt_seq {l : Nat} {p : Addr × Addr} {b : Val} {v : Value} {ys : List Val} {vs : List Value} {n : Nat} (R : Rel cx H ρ s) (hl : ρ[l]? = some p) (hpp : p.2 = p.1) (g : s.heap.get? p.1 = some (listO vs n)) (f : Array Value → Array Value)
    (r : VRs cx ρ s.heap ys (f vs.toArray).toList) (z : ys.length ≤ sizeLine) (hv : ∀ h, Full ρ s.heap ρ h → VR cx ρ h b v) :
    ∃ ρ', Full ρ s.heap ρ' (s.heap.update p.1 (Obj.mapSeq f)) ∧ Rel cx (H.set l (.list ys)) ρ' { s with heap := s.heap.update p.1 (Obj.mapSeq f) } ∧ (Amb.vr cx b v).P ρ' (s.heap.update p.1 (Obj.mapSeq f)) := by
  obtain ⟨n', e⟩ := mapSeq_list vs n f
  have g' : (s.heap.update p.1 (Obj.mapSeq f)).get? p.1 = some (listO (f vs.toArray).toList n') := by
    rw [Heap.get?_update_self _ g (by rw [e]; rfl), e]
  have hs : Heap.SameBut p.1 s.heap (s.heap.update p.1 (Obj.mapSeq f)) := Heap.SameBut.update ..
  have own : Owned ρ p.1 := ⟨p, List.mem_of_getElem? hl, .inl rfl⟩
  have F := Full.own own g' hs
  obtain ⟨F', R'⟩ := R.set (tk := s.toks) (o := .list ys) hl (fun b ob eb n1 _ => by rw [hs.2 b n1]; exact eb) (SameBut.live hs g') (by
    obtain ⟨p1, p2⟩ := p
    dsimp only at hpp
    subst hpp
    exact .list g' (r.step F.step) z)
  exact ⟨ρ, F', R', hv _ F'⟩

theorem size_le_of {vs : List Value} {xs : List Val} (r : VRs cx ρ s.heap xs vs) (z : xs.length ≤ sizeLine) : vs.toArray.size ≤ sizeLine := by simp only [List.size_toArray]; rw [← r.length]; exact z


/- the arguments, then the rest -/
theorem simK_args {Φ : Funs} {Γ : Env'} {es : MEs} {xs : List Expr} {f : Value} {γ δ : Type} {g : List Val → M δ} {W : δ → γ → Amb} {K : List Value → (γ → Shared → Prop) → (Value → Shared → Prop) → Shared → Prop}
    (hn : xs = [] → es = .nil) (R : Rel cx H ρ s) (x : SimAt cx A (evalEs cx.T Φ es Γ H) (spliced (xs.map fun e => (false, eval e env))) (Amb.vrs cx) ρ s)
    (y : ∀ ms vs H' ρ' s', evalEs cx.T Φ es Γ H = .ok ms H' → Full ρ s.heap ρ' s'.heap → Rel cx H' ρ' s' → VRs cx ρ' s'.heap ms vs → SimK cx (g ms H') (K vs) W ρ' s') (mk : ∀ vs, MonoK (K vs)) :
    SimK cx ((evalEs cx.T Φ es Γ).bnd g H) (fun Q E s => wpAny (model cx.prog cx.w) A (evalArgs f true (xs.map fun e => (false, eval e env)) []) (fun a s₁ => a.kw = [] ∧ K a.pos Q E s₁) E s) W ρ s := by
  cases xs with
  | nil =>
    obtain rfl := hn rfl
    have e : evalEs cx.T Φ .nil Γ H = .ok [] H := rfl
    rw [bnd_ok e]
    refine (y [] [] H ρ s e (Full.refl _ _) R .nil).mono fun Q E h => ?_
    exact evalArgs_none ⟨rfl, h⟩
  | cons e0 es0 =>
    refine SimAt.bindK (K := K) x y mk fun Q E h => ?_
    exact Calls.evalArgs_plain (wpAny_mono h (fun vs s' h' => ⟨rfl, h'⟩) fun _ _ q => q)
theorem any_false (args : List Expr) : (args.map fun e => (false, eval e env)).any (·.1) = false := by
  induction args with
  | nil => rfl
  | cons e es ih => rw [List.map_cons, List.any_cons, ih]; rfl
theorem monoK_wp {α : Type} (t : Sem α) : MonoK fun Q E s => wpAny (model cx.prog cx.w) A t Q E s := fun _ _ _ _ _ h k1 k2 => wpAny_mono h k1 k2

/- a built-in function or method, called -/
theorem simK_callB {Φ : Funs} {Γ : Env'} {es : MEs} {xs : List Expr} {pos : Pos} {id : String} {first : List Value} {g : List Val → M Val} (hn : xs = [] → es = .nil) (R : Rel cx H ρ s)
    (x : SimAt cx A (evalEs cx.T Φ es Γ H) (spliced (xs.map fun e => (false, eval e env))) (Amb.vrs cx) ρ s)
    (y : ∀ ms vs H' ρ' s', evalEs cx.T Φ es Γ H = .ok ms H' → Full ρ s.heap ρ' s'.heap → Rel cx H' ρ' s' → VRs cx ρ' s'.heap ms vs → SimAt cx A (g ms H') (call (.builtin id) (first ++ vs)) (Amb.vr cx) ρ' s') :
    SimAt cx A ((evalEs cx.T Φ es Γ).bnd g H) (callWith pos (.builtin id) first (xs.map fun e => (false, eval e env)) []) (Amb.vr cx) ρ s :=
  (simK_args (f := .builtin id) (K := fun vs Q E s => wpAny (model cx.prog cx.w) A (call (.builtin id) (first ++ vs)) Q E s) hn R x y (fun _ => monoK_wp _)).mono fun Q E h =>
    Calls.callWith_builtin (any_false _) (wpAny_mono h (fun a s₁ h₁ => by rw [h₁.1]; exact h₁.2) fun _ _ q => q)

/-! ## the methods -/
/- where a method is found -/
noncomputable def bmAt : BM → String × String
  | .append => ("list", "list.append")
  | .rstrip => ("str", "str.rstrip")
theorem bm_plain (m : BM) : PlainAttrs (bmAt m).1 := by
  cases m <;> first | exact F.plainAttrs_list | exact F.plainAttrs_dict | exact F.plainAttrs_str
theorem bm_slot (m : BM) : Slot (bmAt m).1 (bmName m).1 (bmAt m).2 := by
  cases m
  · exact F.slot_list_append
  · exact F.slot_str_rstrip
set_option maxRecDepth 100000 in
theorem bm_desc (m : BM) : typeOf (.builtin (bmAt m).2) = pure (.type "method_descriptor") := by
  cases m <;> kernel_rfl
set_option tactic.hygienic true in
theorem bm_fits {m : BM} {b : Val} {v : Value} (R : Rel cx H ρ s) (x : VR cx ρ s.heap b v) (h : bmFits m b H = some ()) : s.TypeIs v (bmAt m).1 ∧ ∀ q, v = .ref q → ∃ ob, s.heap.get? q = some ob ∧ ob.dict = none := by
  cases x with
  | str y t z =>
    cases m <;> simp [bmFits] at h <;> exact ⟨typeIs_str _ _ _, fun q e => nomatch e⟩
  | @loc l p hp =>
    simp only [bmFits] at h
    split at h
    · rename_i xs hl
      have := list_head R hl hp
      cases m <;> simp at h <;> exact this
    · rename_i es hl
      obtain ⟨xs, _, D, _⟩ := R.dictAt hl hp
      obtain ⟨o, _, _, g, ex, _⟩ := D
      have : s.TypeIs (.ref p.1) "dict" ∧ ∀ q, Value.ref p.1 = .ref q → ∃ ob, s.heap.get? q = some ob ∧ ob.dict = none := ⟨⟨_, g, ex.1⟩, fun q e => by cases e; exact ⟨_, g, ex.2.1⟩⟩
      cases m <;> simp at h <;> exact this
    · cases h
  | _ => cases m <;> cases h

theorem sim_bm {Φ : Funs} {Γ : Env'} {a : ME} {m : BM} {es : MEs} {o : Expr} {xs : List Expr} {apos pos : Pos} (hs : notSuper o = true) (hp : plainArgs env xs) (hz : xs.length ≤ 20) (hn : xs = [] → es = .nil) (hline : (apos.endLine == pos.line) = true)
    (x : Sim cx A P (eval o env) (evalE cx.T Φ a Γ) (Amb.vr cx)) (y : Sim cx A P (spliced (xs.map fun e => (false, eval e env))) (evalEs cx.T Φ es Γ) (Amb.vrs cx))
    (k : ∀ b v ms vs, ms.length = xs.length → Sim cx A ((Amb.vr cx b v).and (Amb.vrs cx ms vs)) (call (.builtin (bmAt m).2) (v :: vs)) (bmV m b ms) (Amb.vr cx)) (hlen : ∀ H ms H', evalEs cx.T Φ es Γ H = .ok ms H' → ms.length = xs.length) :
    Sim cx A P (eval (.Call (.Attribute o (bmName m).1 apos) xs [] pos) env) (evalE cx.T Φ (.bm a m es) Γ) (Amb.vr cx) := by
  intro H ρ s R p
  rw [ev_bm]
  refine simK_method (T := (bmAt m).1) (id := (bmAt m).2) hs hp hz hline (bm_plain m) (bm_slot m) (bm_desc m) (x H ρ s R p) fun b v H1 ρ1 s1 _ F1 R1 vr => ?_
  refine SimK.lookK fun _ fit => ?_
  obtain ⟨t1, t2⟩ := bm_fits R1 vr fit
  refine SimK.mono (K := fun Q E s => wpAny (model cx.prog cx.w) A (callWith pos (.builtin (bmAt m).2) [v] (xs.map fun e => (false, eval e env)) []) Q E s) ?_ fun Q E h => ⟨t1, t2, h⟩
  refine simK_callB hn R1 (y H1 ρ1 s1 R1 (P.st _ _ _ _ p F1)) fun ms vs H2 ρ2 s2 e2 F2 R2 vrs => ?_
  exact k b v ms vs (hlen _ _ _ e2) H2 ρ2 s2 R2 ⟨vr.step F2.step, vrs⟩
end
end Mine

-- part MLm
namespace Mine
open PySem

section
variable {cx : Cx} {A : Around} {H : Hp} {ρ : Rho} {s : Shared}

theorem isL_of {l : Addr} {vs : List Value} {n : Nat} (g : s.heap.get? l = some (listO vs n)) : IsL s.heap l vs.toArray n := g

set_option tactic.hygienic true in
theorem bm_append (b : Val) (v : Value) (ms : List Val) (vs : List Value) (hl : ms.length = 1) : Sim cx A ((Amb.vr cx b v).and (Amb.vrs cx ms vs)) (call (.builtin "list.append") (v :: vs)) (bmV .append b ms) (Amb.vr cx) := by
  intro H ρ s R ⟨x, y⟩
  match ms, hl, y with
  | [m], _, .cons (v := u) y0 .nil =>
    cases x with
    | @loc l p hp =>
      show SimAt cx A (match H[l]? with
        | some (.list xs) => if xs.length < lid then Res.ok Val.none (H.set l (.list (xs ++ [m]))) else .bad
        | some (.dict es) => .bad
        | _ => .bad) _ _ ρ s
      split
      · rename_i xs e
        obtain ⟨ws, n, hpp, g, r, z⟩ := R.listAt e hp
        by_cases q : xs.length < lid
        · rw [if_pos q]
          rw [sizeLine_lid] at q
          refine call_meets F.slot_list_append ⟨_, g, rfl⟩ F.entry_list_append (F.args_list_append_2 _ _) (list_append p.1 ws.toArray n u (size_le_of r z)) ⟨g, ?_⟩
          exact simAt_seq R hp hpp g (fun x => x.push u) (by simpa using r.append (.one y0)) (by rw [List.length_append]; exact q) fun _ _ => .none
        · rw [if_neg q]; trivial
      · trivial
      · trivial
    | _ => trivial
theorem bm_rstrip (b : Val) (v : Value) (ms : List Val) (vs : List Value) (hl : ms.length = 0) : Sim cx A ((Amb.vr cx b v).and (Amb.vrs cx ms vs)) (call (.builtin "str.rstrip") (v :: vs)) (bmV .rstrip b ms) (Amb.vr cx) := by
  intro H ρ s R ⟨x, y⟩
  match ms, hl, y with
  | [], _, .nil =>
    cases x with
    | str y t z =>
      show SimAt cx A (if (Txt.rstrip y).length ≤ lid then Res.ok (Val.str (Txt.rstrip y)) H else .bad) _ _ ρ s
      by_cases q : (Txt.rstrip y).length ≤ lid
      · rw [if_pos q]
        rw [sizeLine_lid] at q
        exact simAt_pure R fun Q E k => SC.rstrip (fun t' tk => k _ _ (.str _ _ q)) z
      · rw [if_neg q]; trivial
    | _ => simp only [bmV]; (try split) <;> trivial
end
end Mine

-- part MDict
namespace Mine
open PySem
/-! ## dicts whose keys are cells -/
section
variable {prog : Program} {w : World} {K : Type} [DecidableEq K] {knd : HeapKind prog w K} {A : Around} {E : Value → Shared → Prop} {s : Shared}
theorem erase_map {α β : Type} (f : α → β) (l : List α) (j : Nat) : (l.map f).eraseIdx j = (l.eraseIdx j).map f := by
  induction l generalizing j with
  | nil => rfl
  | cons a l ih =>
    cases j with
    | zero => rfl
    | succ j => exact congrArg (f a :: ·) (ih j)
/- an entry is taken out -/
theorem takeOut_heap {d a : Addr} {xs : List (K × Addr × Value)} {k : K} {p : Addr × Value} {Q : Option DictEntry → Shared → Prop} (hu : knd.room A) (hkey : knd.is s.heap k a) (hm : s.heap.DictOfH knd d xs) (hp : atKey xs k = some p) (hz : xs.length ≤ sizeLine)
    (hQ : ∀ j h', xs[j]? = some (k, p) → h'.DictOfH knd d (xs.eraseIdx j) → Heap.SameBut d s.heap h' → Q (some (entryOfKey knd (k, p))) { s with heap := h', toks := s.toks + knd.draws k }) : wpAny (model prog w) A (Builtin.Dict.takeOut d (.ref a)) Q E s := by
  obtain ⟨o, es, ep, ho, hc, hd, he, his, hn⟩ := hm
  have hes : es.size ≤ sizeLine := by rw [size_of_entries he]; exact hz
  unfold Builtin.Dict.takeOut
  try with_reducible refine wpAny_holding ?_
  refine wpAny_bind (knd.pyHash hu hkey (wpAny_bind (wpAny_dictFind_heap (s := { s with toks := s.toks + knd.draws k }) hu hkey ho hd he his hn ?_ ?_)))
  · intro hno
    rw [atKey_none_of_get hno] at hp; cases hp
  · intro j q hj
    have e := atKey_of_get hn hj
    rw [hp] at e; cases e
    refine wpAny_bind (wpAny_dictEntries (s := { s with toks := s.toks + knd.draws k }) ho hd ?_)
    rw [entry_at he j, hj]
    refine wpAny_bind (wpAny_updateDictKeys (hz := hes) (s := { s with toks := s.toks + knd.draws k }) ho hd (wpAny_pure (hQ j _ hj ⟨_, _, ep + 1, Heap.get?_update_self _ ho (Obj.isFreed_of_dict (Obj.data_mapDictKeys hd _)),
      hc.mapDictKeys _, Obj.data_mapDictKeys hd _, ?_, fun x hx => knd.keeps (his x (List.mem_of_mem_eraseIdx hx)) ho hd (Heap.SameBut.update ..), ?_⟩ (Heap.SameBut.update ..))))
    · obtain ⟨l⟩ := es
      simp only [List.eraseIdxIfInBounds_toArray]
      rw [show l = xs.map (entryOfKey knd) from he, erase_map]
    · rw [← erase_map]
      exact hn.sublist (List.eraseIdx_sublist _ _)
/- «d.pop(key)», the key being there -/
theorem dict_pop_heap {d a : Addr} {xs : List (K × Addr × Value)} {k : K} {p : Addr × Value} {Q : Value → Shared → Prop} (hu : knd.room A.in1) (hkey : knd.is s.heap k a) (hm : s.heap.DictOfH knd d xs) (hp : atKey xs k = some p) (hz : xs.length ≤ sizeLine)
    (hQ : ∀ j h', xs[j]? = some (k, p) → h'.DictOfH knd d (xs.eraseIdx j) → Heap.SameBut d s.heap h' → Q p.2 { s with heap := h', toks := s.toks + knd.draws k }) : wpAny (model prog w) A (call (.builtin "dict.pop") [.ref d, .ref a]) Q E s := by
  refine wpAny_call_entry F.slot_dict_pop hm.typeIs F.entry_dict_pop ?_ (F.args_dict_pop_2 _ _)
  have hm' := hm
  obtain ⟨o, es, ep, ho, hc, hd, he, _, _⟩ := hm
  unfold Builtin.«dict.pop»
  refine wpAny_bind ?_
  unfold Builtin.Dict.keyAndDefault
  refine wpAny_bind (wpAny_notOrdered_dict hm'.typeIs ?_)
  show wpAny _ _ (pure (d, Value.ref a, none)) _ _ s
  refine wpAny_pure ?_
  have ne : es.isEmpty = false := by
    rw [Array.isEmpty_eq_false_iff_exists_mem]
    obtain ⟨x, hx, _⟩ := Option.map_eq_some_iff.mp hp
    exact ⟨_, Array.mem_toList_iff.mp (by rw [he]; exact List.mem_map.mpr ⟨x, List.mem_of_find?_eq_some hx, rfl⟩)⟩
  have hpart : (keyPart (.ref a)).isSome = false := rfl
  simp only [hpart, Bool.false_eq_true, if_false]
  refine wpAny_bind (wpAny_dictEntries ho hd (wpAny_bind (wpAny_pure ?_)))
  simp only [ne, Bool.false_eq_true, if_false]
  refine wpAny_bind (takeOut_heap hu hkey hm' hp hz fun j h' hj hm2 hs => ?_)
  simp only [Option.isNone_some, Bool.false_eq_true, if_false]
  exact wpAny_bind (wpAny_letGo (wpAny_pure ⟨p.2, rfl, hQ j h' hj hm2 hs⟩))
end
section
variable {prog : Program} {w : World} {K : Type} [DecidableEq K] {knd : HeapKind prog w K}
theorem stored_keys {h : Heap} {xs : List (K × Addr × Value)} {k : K} {a : Addr} {v : Value} (ks : ∀ x ∈ xs, knd.is h x.1 x.2.1) (hk : knd.is h k a) : ∀ x ∈ storedH xs k a v, knd.is h x.1 x.2.1 := by
  intro x hx
  unfold storedH at hx
  by_cases q : (atKey xs k).isSome = true
  · rw [if_pos q] at hx
    obtain ⟨y, hy, rfl⟩ := List.mem_map.mp hx
    unfold putAt
    by_cases e : y.1 = k
    · rw [if_pos e]; exact ks y hy
    · rw [if_neg e]; exact ks y hy
  · rw [if_neg q] at hx
    rcases List.mem_append.mp hx with hx | hx
    · exact ks x hx
    · rw [List.mem_singleton.mp hx]; exact hk
end
section
variable {cx : Cx} {A : Around} {P : Amb} {H : Hp} {ρ : Rho} {s : Shared} {h : Heap}
theorem DRs.length {es : List (Key × Val)} {xs : List (List Int × Addr × Value)} (r : DRs cx ρ h es xs) : xs.length = es.length := by
  induction r with
  | nil => rfl
  | cons _ _ _ ih => exact congrArg (· + 1) ih
theorem key_ne {k k' : Key} (q : ¬ k' = k) : ¬ ([k'.1, k'.2] = [k.1, k.2]) := fun e => q (by
  simp only [List.cons.injEq, and_true] at e
  exact Prod.ext e.1 e.2)
theorem DRs.put {es : List (Key × Val)} {xs : List (List Int × Addr × Value)} {k : Key} {a : Addr} {m : Val} {v : Value} (r : DRs cx ρ h es xs) (hn : (xs.map (·.1)).Nodup) (x : VR cx ρ h m v) (no : ¬ Owned ρ a) : DRs cx ρ h (dput es k m) (storedH xs [k.1, k.2] a v) := by
  induction r with
  | nil => exact .cons x no .nil
  | @cons k' v' b y es xs a' n r ih =>
    rw [List.map_cons, List.nodup_cons] at hn
    by_cases q : k' = k
    · subst q
      have e1 : storedH (([k'.1, k'.2], b, y) :: xs) [k'.1, k'.2] a v = ([k'.1, k'.2], b, v) :: xs := by
        unfold storedH
        rw [if_pos (by simp [PySem.atKey]), List.map_cons]
        congr 1
        · simp [putAt]
        · refine (List.map_congr_left fun z hz => ?_).trans (List.map_id _)
          unfold putAt
          rw [if_neg fun e => hn.1 (List.mem_map.mpr ⟨z, hz, e⟩)]; rfl
      rw [e1]
      show DRs cx ρ h (if k' = k' then _ else _) _
      rw [if_pos rfl]
      exact .cons x n r
    · have q' := key_ne q
      have e2 : PySem.atKey (([k'.1, k'.2], b, y) :: xs) [k.1, k.2] = PySem.atKey xs [k.1, k.2] := by
        unfold PySem.atKey
        rw [List.find?_cons]
        simp only [decide_eq_false q']
      have e1 : storedH (([k'.1, k'.2], b, y) :: xs) [k.1, k.2] a v = ([k'.1, k'.2], b, y) :: storedH xs [k.1, k.2] a v := by
        unfold storedH
        rw [e2]
        split
        · rw [List.map_cons]; congr 1
          unfold putAt; rw [if_neg q']
        · rfl
      rw [e1]
      show DRs cx ρ h (if k' = k then _ else _) _
      rw [if_neg q]
      exact .cons a' n (ih hn.2)
theorem DRs.del {es : List (Key × Val)} {xs : List (List Int × Addr × Value)} {k : Key} {j : Nat} {p : Addr × Value} (r : DRs cx ρ h es xs) (hn : (xs.map (·.1)).Nodup) (hj : xs[j]? = some ([k.1, k.2], p)) : DRs cx ρ h (ddel es k) (xs.eraseIdx j) := by
  induction r generalizing j with
  | nil => cases hj
  | @cons k' v' b y es xs a' n r ih =>
    rw [List.map_cons, List.nodup_cons] at hn
    show DRs cx ρ h (if k' = k then _ else _) _
    cases j with
    | zero =>
      have e := Option.some.inj hj
      have : k' = k := by
        have e := congrArg Prod.fst e
        simp only [List.cons.injEq, and_true] at e
        exact Prod.ext e.1 e.2
      rw [if_pos this]; exact r
    | succ j =>
      have hj' : xs[j]? = some ([k.1, k.2], p) := hj
      have : ¬ k' = k := fun e => hn.1 (e ▸ List.mem_map.mpr ⟨_, List.mem_of_getElem? hj', rfl⟩)
      rw [if_neg this]
      exact .cons a' n (ih hn.2 hj')
theorem DRs.sub {es : List (Key × Val)} {xs : List (List Int × Addr × Value)} {k : Key} {m : Val} (r : DRs cx ρ s.heap es xs) (h : dget es k = some m) : ∃ p, PySem.atKey xs [k.1, k.2] = some p ∧ VR cx ρ s.heap m p.2 := by
  have a := r.atKey k
  rw [h] at a
  cases e : PySem.atKey xs [k.1, k.2] with
  | none => rw [e] at a; exact a.elim
  | some p => rw [e] at a; exact ⟨p, rfl, a⟩
theorem dput_length (es : List (Key × Val)) (k : Key) (v : Val) : (dput es k v).length ≤ es.length + 1 := by
  induction es with
  | nil => exact Nat.le_refl _
  | cons e es ih =>
    show (if e.1 = k then _ else _ : List (Key × Val)).length ≤ _
    by_cases q : e.1 = k
    · rw [if_pos q]; exact Nat.le_succ _
    · rw [if_neg q]; exact Nat.succ_le_succ ih
theorem ddel_length (es : List (Key × Val)) (k : Key) : (ddel es k).length ≤ es.length := by
  induction es with
  | nil => exact Nat.le_refl _
  | cons e es ih =>
    show (if e.1 = k then _ else _ : List (Key × Val)).length ≤ _
    by_cases q : e.1 = k
    · rw [if_pos q]; exact Nat.le_succ _
    · rw [if_neg q]; exact Nat.succ_le_succ ih
/- the dict at a place, turned into another -/
theorem dict_set {l : Nat} {p : Addr × Addr} {es : List (Key × Val)} {xs : List (List Int × Addr × Value)} {h' : Heap} {tk : Nat} (R : Rel cx H ρ s) (hl : ρ[l]? = some p) (hpp : p.2 = p.1) (hm : h'.DictOfH (cellKind cx) p.1 xs) (hs : Heap.SameBut p.1 s.heap h')
    (hk : ∀ x ∈ xs, (cellKind cx).is s.heap x.1 x.2.1) (r : DRs cx ρ s.heap es xs) (z : es.length ≤ sizeLine) : Full ρ s.heap ρ h' ∧ Rel cx (H.set l (.dict es)) ρ { s with heap := h', toks := tk } := by
  have hm' := hm
  obtain ⟨o, _, _, e', _⟩ := hm
  have F := Full.own ⟨p, List.mem_of_getElem? hl, .inl rfl⟩ e' hs
  refine R.set hl (fun b ob eb n1 _ => by rw [hs.2 b n1]; exact eb) (SameBut.live hs e') ?_
  obtain ⟨p1, p2⟩ := p
  dsimp only at hpp
  subst hpp
  exact .dict hm' (r.step F.step hk) z
/- `{}` -/
theorem sim_dict {env : Env} {Φ : Funs} {Γ : Env'} {pos : Pos} : Sim cx A P (eval (.Dict [] [] pos) env) (evalE cx.T Φ .dict Γ) (Amb.vr cx) := by
  intro H ρ s R p
  refine wpAny_Dict_empty ?_
  have kp : ∀ b o, s.heap.get? b = some o → (s.heap.push { cls := .type "dict", data := .dict #[] }).get? b = some o := fun b o e => Heap.get?_push_of_some _ e
  obtain ⟨F, R'⟩ := R.alloc (tk := s.toks) (o := .dict []) (p := (s.heap.objs.size, s.heap.objs.size)) kp ⟨fresh_none _, fresh_none _⟩
    (.dict (Heap.DictOfH.new _) .nil (Nat.zero_le _))
  refine ⟨_, F, R', ?_⟩
  rw [R.len]
  exact VR.loc (p := (s.heap.objs.size, s.heap.objs.size)) (by rw [List.getElem?_append_right (Nat.le_refl _)]; simp)
/- `d.pop(cell)` -/
/- `d.get(cell)` -/
/- `d.get(cell, other)` -/
end
end Mine

-- part MInv
namespace Mine
open PySem
section
variable {N : Names} {sc : Scope} {ns : List (Option Str)} {a b c : ME} {e : Expr} {es : MEs} {op op1 op2 : COp}
theorem opt_isSome {α : Type} {o : Option α} (h : o.isSome = true) : ∃ x, o = some x := Option.isSome_iff_exists.mp h
theorem inv_none (h : ck N sc ns .none e = true) : ∃ k pos, e = .Constant .none k pos := by
  obtain ⟨t, h⟩ := seen_of h
  exact ⟨_, _, t.2.trans (congrArg (fun c => Expr.Constant c t.1.2.1 t.1.2.2) (said h))⟩
theorem inv_bool {v : Bool} (h : ck N sc ns (.bool v) e = true) : ∃ k pos, e = .Constant (.bool v) k pos := by
  obtain ⟨t, h⟩ := seen_of h
  obtain ⟨u, h⟩ := seen_of h
  exact ⟨_, _, t.2.trans (congrArg (fun c => Expr.Constant c t.1.2.1 t.1.2.2) (u.2.trans (congrArg Const.bool (eq_of_beq h).symm)))⟩
theorem inv_int {v : Int} (h : ck N sc ns (.int v) e = true) : ∃ k pos, e = .Constant (.int v) k pos := by
  obtain ⟨t, h⟩ := seen_of h
  obtain ⟨u, h⟩ := seen_of h
  exact ⟨_, _, t.2.trans (congrArg (fun c => Expr.Constant c t.1.2.1 t.1.2.2) (u.2.trans (congrArg Const.int (of_decide_eq_true h).symm)))⟩
theorem inv_str {v : Str} (h : ck N sc ns (.str v) e = true) : ∃ k pos, e = .Constant (.str v) k pos ∧ v.length ≤ 1000 := by
  obtain ⟨t, h⟩ := seen_of h
  obtain ⟨u, h⟩ := seen_of h
  exact ⟨_, _, t.2.trans (congrArg (fun c => Expr.Constant c t.1.2.1 t.1.2.2) (u.2.trans (congrArg Const.str (of_decide_eq_true (an1 h)).symm))), of_decide_eq_true (an2 h)⟩
theorem inv_glob {k : Nat} (h : ck N sc ns (.glob k) e = true) : ∃ x pos, e = .Name x pos ∧ isGlob sc x = true ∧ hasNo N.globs x k = true := by
  obtain ⟨t, h⟩ := seen_of h
  exact ⟨_, _, t.2, an1 h, an2 h⟩
theorem inv_var {k : Nat} (h : ck N sc ns (.var k) e = true) : ∃ x pos, e = .Name x pos ∧ isVar sc ns k x = true := by
  obtain ⟨t, h⟩ := seen_of h
  exact ⟨_, _, t.2, h⟩
theorem inv_bin {op : BOp} (h : ck N sc ns (.bin op a b) e = true) : ∃ l o r pos, e = .BinOp l o r pos ∧ opOk op o = true ∧ ck N sc ns a l = true ∧ ck N sc ns b r = true := by
  obtain ⟨t, h⟩ := seen_of h
  exact ⟨_, _, _, _, t.2, an1 (an1 h), an2 (an1 h), an2 h⟩
theorem inv_neg (h : ck N sc ns (.neg a) e = true) : ∃ x pos, e = .UnaryOp .USub x pos ∧ ck N sc ns a x = true := by
  obtain ⟨t, h⟩ := seen_of h
  exact ⟨_, _, t.2.trans (congrArg (fun o => Expr.UnaryOp o t.1.2.1 t.1.2.2) (said (an1 h))), an2 h⟩
theorem inv_not (h : ck N sc ns (.not a) e = true) : ∃ x pos, e = .UnaryOp .Not x pos ∧ ck N sc ns a x = true := by
  obtain ⟨t, h⟩ := seen_of h
  exact ⟨_, _, t.2.trans (congrArg (fun o => Expr.UnaryOp o t.1.2.1 t.1.2.2) (said (an1 h))), an2 h⟩
theorem inv_and (h : ck N sc ns (.and a b) e = true) : ∃ x y rest pos, e = .BoolOp .And (x :: y :: rest) pos ∧ ck N sc ns a x = true ∧ ((rest = [] ∧ ck N sc ns b y = true) ∨ ck N sc ns b (.BoolOp .And (y :: rest) pos) = true) := by
  obtain ⟨t, h⟩ := seen_of h
  obtain ⟨⟨⟨x, y, rest⟩, z2⟩, h2⟩ := seen_of (an2 h)
  refine ⟨x, y, rest, t.1.2.2, t.2.trans ((congrArg (fun o => Expr.BoolOp o t.1.2.1 t.1.2.2) (said (an1 h))).trans (congrArg (fun o => Expr.BoolOp .And o t.1.2.2) z2)), an1 h2, ?_⟩
  cases rest with
  | nil => exact .inl ⟨rfl, an2 h2⟩
  | cons _ _ => exact .inr (an2 h2)
theorem inv_or (h : ck N sc ns (.or a b) e = true) : ∃ x y rest pos, e = .BoolOp .Or (x :: y :: rest) pos ∧ ck N sc ns a x = true ∧ ((rest = [] ∧ ck N sc ns b y = true) ∨ ck N sc ns b (.BoolOp .Or (y :: rest) pos) = true) := by
  obtain ⟨t, h⟩ := seen_of h
  obtain ⟨⟨⟨x, y, rest⟩, z2⟩, h2⟩ := seen_of (an2 h)
  refine ⟨x, y, rest, t.1.2.2, t.2.trans ((congrArg (fun o => Expr.BoolOp o t.1.2.1 t.1.2.2) (said (an1 h))).trans (congrArg (fun o => Expr.BoolOp .Or o t.1.2.2) z2)), an1 h2, ?_⟩
  cases rest with
  | nil => exact .inl ⟨rfl, an2 h2⟩
  | cons _ _ => exact .inr (an2 h2)
theorem inv_cmp (h : ck N sc ns (.cmp op a b) e = true) : ∃ l r pos, e = .Compare l [cmOp op] [r] pos ∧ ck N sc ns a l = true ∧ ck N sc ns b r = true ∧ notSet r = true := by
  obtain ⟨t, h⟩ := seen_of h
  obtain ⟨u, h2⟩ := seen_of (an2 h)
  exact ⟨_, _, _, t.2.trans ((congrArg (fun o => Expr.Compare t.1.1 o t.1.2.2.1 t.1.2.2.2) (of_decide_eq_true (an1 h))).trans (congrArg (fun o => Expr.Compare t.1.1 _ o t.1.2.2.2) u.2)), an1 (an1 h2), an2 (an1 h2), an2 h2⟩
theorem inv_cmp2 (h : ck N sc ns (.cmp2 op1 op2 a b c) e = true) : ∃ l m r pos, e = .Compare l [cmOp op1, cmOp op2] [m, r] pos ∧ ck N sc ns a l = true ∧ ck N sc ns b m = true ∧ ck N sc ns c r = true ∧ notSet r = true := by
  obtain ⟨t, h⟩ := seen_of h
  obtain ⟨u, h2⟩ := seen_of (an2 h)
  exact ⟨_, _, _, _, t.2.trans ((congrArg (fun o => Expr.Compare t.1.1 o t.1.2.2.1 t.1.2.2.2) (of_decide_eq_true (an1 h))).trans (congrArg (fun o => Expr.Compare t.1.1 _ o t.1.2.2.2) u.2)), an1 (an1 (an1 h2)), an2 (an1 (an1 h2)), an2 (an1 h2), an2 h2⟩
theorem inv_sub (h : ck N sc ns (.sub a b) e = true) : ∃ v s pos, e = .Subscript v s pos ∧ ck N sc ns a v = true ∧ ck N sc ns b s = true := by
  obtain ⟨t, h⟩ := seen_of h
  exact ⟨_, _, _, t.2, an1 h, an2 h⟩
theorem inv_slice {lo hi : MEo} (h : ck N sc ns (.slice a lo hi) e = true) : ∃ v l u p pos, e = .Subscript v (.Slice l u none p) pos ∧ ck N sc ns a v = true ∧ ckO N sc ns lo l = true ∧ ckO N sc ns hi u = true := by
  obtain ⟨t, h⟩ := seen_of h
  obtain ⟨u, h⟩ := seen_of h
  exact ⟨_, _, _, _, _, t.2.trans (congrArg (fun o => Expr.Subscript t.1.1 o t.1.2.2) (u.2.trans (congrArg (fun o => Expr.Slice u.1.1 u.1.2.1 o u.1.2.2.2) (said (an2 h))))), an1 (an1 (an1 h)), an2 (an1 (an1 h)), an2 (an1 h)⟩
theorem inv_list (h : ck N sc ns (.list es) e = true) : ∃ xs pos, e = .List xs pos ∧ ckEs N sc ns es xs = true ∧ xs.length ≤ 1000 := by
  obtain ⟨t, h⟩ := seen_of h
  exact ⟨_, _, t.2, an1 h, of_decide_eq_true (an2 h)⟩
theorem inv_dict (h : ck N sc ns .dict e = true) : ∃ pos, e = .Dict [] [] pos := by
  obtain ⟨t, h⟩ := seen_of h
  exact ⟨t.1.2.2, t.2.trans (by rw [List.isEmpty_iff.mp (an1 h), List.isEmpty_iff.mp (an2 h)])⟩
theorem inv_call {f : Nat} (h : ck N sc ns (.call f es) e = true) : ∃ x np xs pos, e = .Call (.Name x np) xs [] pos ∧ isGlob sc x = true ∧ hasNo N.funs x f = true ∧ ckEs N sc ns es xs = true ∧ xs.length ≤ 20 := by
  obtain ⟨t, h⟩ := seen_of h
  exact ⟨_, _, _, _, t.2, an1 (an1 (an1 h)), an2 (an1 (an1 h)), an2 (an1 h), of_decide_eq_true (an2 h)⟩
theorem inv_new {f : Nat} (h : ck N sc ns (.new f es) e = true) : ∃ x np xs pos, e = .Call (.Name x np) xs [] pos ∧ isGlob sc x = true ∧ hasNo N.clss x f = true ∧ ckEs N sc ns es xs = true ∧ xs.length ≤ 20 := by
  obtain ⟨t, h⟩ := seen_of h
  exact ⟨_, _, _, _, t.2, an1 (an1 (an1 h)), an2 (an1 (an1 h)), an2 (an1 h), of_decide_eq_true (an2 h)⟩
theorem inv_bf {f : BF} (h : ck N sc ns (.bf f es) e = true) : ∃ x np xs pos, e = .Call (.Name x np) xs [] pos ∧ isGlob sc x = true ∧ (bfName f).1 = x ∧ (bfName f).2 = xs.length ∧ ckEs N sc ns es xs = true := by
  obtain ⟨t, h⟩ := seen_of h
  exact ⟨_, _, _, _, t.2, an1 (an1 (an1 h)), of_decide_eq_true (an2 (an1 (an1 h))), of_decide_eq_true (an2 (an1 h)), an2 h⟩
theorem inv_bm {m : BM} (h : ck N sc ns (.bm a m es) e = true) : ∃ o y apos xs pos, e = .Call (.Attribute o y apos) xs [] pos ∧ ck N sc ns a o = true ∧ (bmName m).1 = y ∧ (bmName m).2 = xs.length ∧ ckEs N sc ns es xs = true ∧ notSuper o = true ∧ (apos.endLine == pos.line) = true := by
  obtain ⟨t, h⟩ := seen_of h
  exact ⟨_, _, _, _, _, t.2.1, an1 (an1 (an1 (an1 h))), of_decide_eq_true (an2 (an1 (an1 (an1 h)))), of_decide_eq_true (an2 (an1 (an1 h))), an2 (an1 h), an2 h, t.2.2⟩
theorem inv_isinst {t : Ty} (h : ck N sc ns (.isinst a t) e = true) : ∃ f np x y yp pos, e = .Call (.Name f np) [x, .Name y yp] [] pos ∧ isGlob sc f = true ∧ f = ("isinstance" : Str) ∧ isGlob sc y = true ∧ ck N sc ns a x = true ∧ tyOk N y t = true := by
  obtain ⟨p, h⟩ := seen_of h
  obtain ⟨u, h⟩ := seen_of h
  obtain ⟨w, h⟩ := seen_of h
  exact ⟨_, _, _, _, _, _, p.2.trans (congrArg (fun xs => Expr.Call (.Name p.1.1 p.1.2.1) xs [] p.1.2.2.2) (u.2.trans (congrArg (fun y => [u.1.1, y]) w.2))), an1 (an1 (an1 (an1 h))), of_decide_eq_true (an2 (an1 (an1 (an1 h)))), an2 (an1 (an1 h)), an2 (an1 h), an2 h⟩
theorem inv_comp {elt it : ME} {cond : MEo} (h : ck N sc ns (.comp elt it cond) e = true) : ∃ el x px i ifs csc pos, e = .ListComp el [⟨.Name x px, i, ifs, 0⟩] csc pos ∧ ck N sc ns it i = true ∧ notSet i = true ∧ compOk sc csc x = true ∧
    ck N csc (inner csc ns ++ [some x]) elt el = true ∧ ckC N csc (inner csc ns ++ [some x]) cond ifs = true := by
  obtain ⟨t, h⟩ := seen_of h
  obtain ⟨u, h⟩ := seen_of h
  exact ⟨_, _, _, _, _, _, _, t.2.trans (congrArg (fun g => Expr.ListComp t.1.1 g t.1.2.2.1 t.1.2.2.2) u.2), an1 (an1 (an1 (an1 h))), an2 (an1 (an1 (an1 h))), an2 (an1 (an1 h)), an2 (an1 h), an2 h⟩
/- the forms that the checker lets pass -/
noncomputable def formOk (comp : Bool) : Expr → Bool
  | .Constant .. => true
  | .Name .. => true
  | .BinOp .. => true
  | .UnaryOp .. => true
  | .BoolOp .. => true
  | .Compare .. => true
  | .Subscript .. => true
  | .Tuple .. => true
  | .List .. => true
  | .Dict .. => true
  | .Attribute .. => true
  | .Call .. => true
  | .ListComp .. => comp
  | _ => false
noncomputable def isComp : ME → Bool
  | .comp .. => true
  | _ => false
theorem form_of {e e' : Expr} {c : Bool} (h : e = e') (k : formOk c e' = true) : formOk c e = true := h ▸ k
theorem ck_head {m : ME} (h : ck N sc ns m e = true) : formOk (isComp m) e = true := by
  cases m with
  | none => obtain ⟨t, _⟩ := seen_of h; exact form_of t.2 rfl
  | bool v => obtain ⟨t, _⟩ := seen_of h; exact form_of t.2 rfl
  | int v => obtain ⟨t, _⟩ := seen_of h; exact form_of t.2 rfl
  | str v => obtain ⟨t, _⟩ := seen_of h; exact form_of t.2 rfl
  | glob k => obtain ⟨t, _⟩ := seen_of h; exact form_of t.2 rfl
  | var k => obtain ⟨t, _⟩ := seen_of h; exact form_of t.2 rfl
  | bin op a b => obtain ⟨t, _⟩ := seen_of h; exact form_of t.2 rfl
  | neg a => obtain ⟨t, _⟩ := seen_of h; exact form_of t.2 rfl
  | not a => obtain ⟨t, _⟩ := seen_of h; exact form_of t.2 rfl
  | and a b => obtain ⟨t, _⟩ := seen_of h; exact form_of t.2 rfl
  | or a b => obtain ⟨t, _⟩ := seen_of h; exact form_of t.2 rfl
  | cmp op a b => obtain ⟨t, _⟩ := seen_of h; exact form_of t.2 rfl
  | cmp2 op1 op2 a b c => obtain ⟨t, _⟩ := seen_of h; exact form_of t.2 rfl
  | sub a i => obtain ⟨t, _⟩ := seen_of h; exact form_of t.2 rfl
  | slice a lo hi => obtain ⟨t, _⟩ := seen_of h; exact form_of t.2 rfl
  | list es => obtain ⟨t, _⟩ := seen_of h; exact form_of t.2 rfl
  | dict => obtain ⟨t, _⟩ := seen_of h; exact form_of t.2 rfl
  | call f es => obtain ⟨t, _⟩ := seen_of h; exact form_of t.2 rfl
  | new f es => obtain ⟨t, _⟩ := seen_of h; exact form_of t.2 rfl
  | bf f es => obtain ⟨t, _⟩ := seen_of h; exact form_of t.2 rfl
  | bm a m es => obtain ⟨t, _⟩ := seen_of h; exact form_of t.2.1 rfl
  | isinst a t => obtain ⟨t, _⟩ := seen_of h; exact form_of t.2 rfl
  | comp elt it cond => obtain ⟨t, _⟩ := seen_of h; exact form_of t.2 rfl
end
end Mine

-- part MMain
namespace Mine
open PySem

noncomputable def notStar : Expr → Bool
  | .Starred .. => false
  | _ => true
theorem starEach_plain {e : Expr} {es : List Expr} {env : Env} (h : notStar e = true) : starEach (e :: es) env = (false, eval e env) :: starEach es env := by
  cases e <;> first | rfl | cases h
theorem ck_notStar {N : Names} {sc : Scope} {ns : List (Option Str)} {m : ME} {e : Expr} (h : ck N sc ns m e = true) : notStar e = true := by
  have z := ck_head h
  cases e <;> first | rfl | cases z
theorem ckEs_plain {N : Names} {sc : Scope} {ns : List (Option Str)} {env : Env} : ∀ {ms : MEs} {xs : List Expr}, ckEs N sc ns ms xs = true → plainArgs env xs
  | .nil, [], _ => trivial
  | .nil, _ :: _, h => by cases (show false = true from h)
  | .cons _ _, [], h => by cases (show false = true from h)
  | .cons m ms, x :: xs, h => by
    have h := And.intro (an1 h) (an2 h)
    exact ⟨starEach_plain (ck_notStar h.1), ckEs_plain h.2⟩
theorem ckEs_nil {N : Names} {sc : Scope} {ns : List (Option Str)} {ms : MEs} (h : ckEs N sc ns ms [] = true) : ms = .nil := by
  cases ms with
  | nil => rfl
  | cons _ _ => cases (show false = true from h)
theorem evalEs_length {T : Tab} {Φ : Funs} {Γ : Env'} {N : Names} {sc : Scope} {ns : List (Option Str)} : ∀ {ms : MEs} {xs : List Expr} {H H' : Hp} {vs : List Val}, ckEs N sc ns ms xs = true → evalEs T Φ ms Γ H = .ok vs H' → vs.length = xs.length
  | .nil, [], H, H', vs, _, e => by cases (show Res.ok [] H = .ok vs H' from e); rfl
  | .nil, _ :: _, _, _, _, h, _ => by cases (show false = true from h)
  | .cons _ _, [], _, _, _, h, _ => by cases (show false = true from h)
  | .cons m ms, x :: xs, H, H', vs, h, e => by
    have h := And.intro (an1 h) (an2 h)
    rw [evs_cons] at e
    cases e1 : evalE T Φ m Γ H with
    | bad => rw [bnd_bad e1] at e; cases e
    | exc c H1 => rw [bnd_exc e1] at e; cases e
    | ok v H1 =>
      rw [bnd_ok e1] at e
      cases e2 : evalEs T Φ ms Γ H1 with
      | bad => rw [bnd_bad e2] at e; cases e
      | exc c H2 => rw [bnd_exc e2] at e; cases e
      | ok vs' H2 =>
        rw [bnd_ok e2] at e
        cases e
        rw [List.length_cons, List.length_cons, evalEs_length h.2 e2]

section
variable {cx : Cx} {N : Names} {A : Around} {P : Amb} {env : Env} {Φ : Funs} {Γ : Env'}

theorem sim_nil : Sim cx A P (spliced (([] : List Expr).map fun e => (false, eval e env))) (evalEs cx.T Φ .nil Γ) (Amb.vrs cx) := by
  intro H ρ s R p
  exact wpAny_pure ⟨ρ, Full.refl _ _, R, .nil⟩
theorem sim_cons {m : ME} {ms : MEs} {e : Expr} {es : List Expr} (x : Sim cx A P (eval e env) (evalE cx.T Φ m Γ) (Amb.vr cx)) (y : Sim cx A P (spliced (es.map fun e => (false, eval e env))) (evalEs cx.T Φ ms Γ) (Amb.vrs cx)) :
    Sim cx A P (spliced ((e :: es).map fun e => (false, eval e env))) (evalEs cx.T Φ (.cons m ms) Γ) (Amb.vrs cx) := by
  intro H ρ s R p
  rw [evs_cons]
  refine SimAt.bindK (K' := fun Q E s => wpAny (model cx.prog cx.w) A (spliced ((e :: es).map fun e => (false, eval e env))) Q E s) (K := fun v Q E s => wpAny (model cx.prog cx.w) A (spliced (es.map fun e => (false, eval e env))) (fun vs s' => Q (v :: vs) s') E s) (x H ρ s R p) ?_ ?_ ?_
  · intro b v H1 ρ1 s1 _ F1 R1 vr
    refine SimAt.bindK (K' := fun Q E s => wpAny (model cx.prog cx.w) A (spliced (es.map fun e => (false, eval e env))) (fun vs s' => Q (v :: vs) s') E s) (K := fun vs Q E s => Q (v :: vs) s) (y H1 ρ1 s1 R1 (P.st _ _ _ _ p F1)) ?_ ?_ ?_
    · intro bs vs H2 ρ2 s2 _ F2 R2 vrs
      exact ⟨ρ2, Full.refl _ _, R2, .cons (vr.step F2.step) vrs⟩
    · exact fun vs Q E Q' E' s h k _ => k _ _ h
    · exact fun Q E h => h
  · exact fun v Q E Q' E' s h k1 k2 => wpAny_mono h (fun _ _ => k1 _ _) k2
  · exact fun Q E h => Calls.spliced_cons h

theorem sim_list {ms : MEs} {es : List Expr} {pos : Pos} (hp : plainArgs env es) (hz : es.length ≤ 1000) (hlen : ∀ H vs H', evalEs cx.T Φ ms Γ H = .ok vs H' → vs.length = es.length) (y : Sim cx A P (spliced (es.map fun e => (false, eval e env))) (evalEs cx.T Φ ms Γ) (Amb.vrs cx)) :
    Sim cx A P (eval (.List es pos) env) (evalE cx.T Φ (.list ms) Γ) (Amb.vr cx) := by
  intro H ρ s R p
  rw [ev_list]
  refine SimAt.bindK (K' := fun Q E s => wpAny (model cx.prog cx.w) A (eval (.List es pos) env) Q E s) (K := fun vs Q E s₁ => vs.length ≤ sizeLine ∧ Q (.ref s₁.heap.objs.size) { s₁ with heap := s₁.heap.push (listO vs 0) }) (y H ρ s R p) ?_ ?_ ?_
  · intro bs vs H1 ρ1 s1 e1 F1 R1 vrs
    have z : bs.length ≤ sizeLine := by rw [hlen _ _ _ e1, sizeLine_eq]; omega
    refine SimK.andK (by rw [← vrs.length]; exact z) ?_
    exact R1.newList s1.toks vrs z
  · exact fun vs Q E Q' E' s h k1 _ => ⟨h.1, k1 _ _ h.2⟩
  · exact fun Q E h => wpAny_List (by rw [plainArgs_trees pos hp]; exact h)
end
end Mine

-- part MStmt
namespace Mine
open PySem

/- all that is neither owned nor the frame's own stands -/
structure FullS (env : Env) (ρ : Rho) (h : Heap) (ρ' : Rho) (h' : Heap) : Prop where
  grow : Grow ρ h ρ'
  keep : ∀ b o, h.get? b = some o → ¬ Owned ρ b → b ≠ env.locals → (∀ y, env.cells.lookup y ≠ some b) → ∃ o', h'.get? b = some o' ∧ SameUp o o'
  live : Live h h'
theorem Full.toS {env : Env} {ρ ρ' : Rho} {h h' : Heap} (x : Full ρ h ρ' h') : FullS env ρ h ρ' h' := ⟨x.grow, fun b o e n _ _ => x.keep b o e n, x.live⟩
theorem FullS.refl (env : Env) (ρ : Rho) (h : Heap) : FullS env ρ h ρ h := (Full.refl ρ h).toS
theorem FullS.trans {env : Env} {ρ ρ' ρ'' : Rho} {h h' h'' : Heap} (x : FullS env ρ h ρ' h') (y : FullS env ρ' h' ρ'' h'') : FullS env ρ h ρ'' h'' :=
  ⟨x.grow.trans y.grow x.live, fun b o e n n1 n2 => by
      obtain ⟨o', e', u⟩ := x.keep b o e n n1 n2
      obtain ⟨o'', e'', u'⟩ := y.keep b o' e' (x.grow.not n e) n1 n2
      exact ⟨o'', e'', u.trans u'⟩, x.live.trans y.live⟩

section
variable {cx : Cx} {N : Names} {A : Around} {env : Env} {sc : Scope} {ns : List (Option Str)}
theorem EnvSt.notLoc {ρ : Rho} {h : Heap} (x : EnvSt cx env sc ρ h) {b : Addr} {o : Obj} (e : h.get? b = some o) (n : ∀ es k, o.data ≠ .dict es k) : b ≠ env.locals := fun q => by
  obtain ⟨m, ob, es, ep, e', d, _⟩ := x.loc
  rw [← q, e] at e'; cases e'
  exact n _ _ d
theorem EnvSt.notCell {ρ : Rho} {h : Heap} (x : EnvSt cx env sc ρ h) {b : Addr} {o : Obj} (e : h.get? b = some o) (n : ∀ v, o.data ≠ .cell v) (y : Str) : env.cells.lookup y ≠ some b := fun q => by
  obtain ⟨⟨v, ob, e', d⟩, _⟩ := x.cells y b q
  rw [e] at e'; cases e'
  exact n _ d
theorem FullS.step {ρ ρ' : Rho} {h h' : Heap} (x : EnvSt cx env sc ρ h) (F : FullS env ρ h ρ' h') : Step ρ h ρ' h' := by
  refine ⟨let ⟨e, h1, _⟩ := F.grow; ⟨e, h1⟩, fun b o e f n => ⟨?_, F.grow.not n e⟩, fun b o C e c n => ?_⟩
  · obtain ⟨o', e', u⟩ := F.keep b o e n (x.notLoc e f.notDict) (x.notCell e fun v q => by rcases f with ⟨_, _, _, f⟩ | ⟨_, _, f⟩ <;> rw [q] at f <;> cases f)
    rw [e', u.exact f.notDict]
  · obtain ⟨o', e', u⟩ := F.keep b o e n (x.notLoc e c.notDict) (x.notCell e fun v q => by obtain ⟨_, ⟨_, f⟩, _⟩ := c; rw [q] at f; cases f)
    rw [u.exact c.notDict] at e'
    exact ⟨o, e', c, F.grow.not n e⟩

noncomputable def SimSAt (cx : Cx) (A : Around) (env : Env) (sc : Scope) (ns : List (Option Str)) (r : ResS) (t : Sem Flow) (ρ : Rho) (s : Shared) : Prop :=
  match r with
  | .bad => True
  | .next Γ' H' => wpAny (model cx.prog cx.w) A t (fun f s' => f = .next ∧ ∃ ρ', FullS env ρ s.heap ρ' s'.heap ∧ Rel cx H' ρ' s' ∧ EnvOk cx env sc ns Γ' ρ' s'.heap) (fun _ _ => False) s
  | .ret v H' => wpAny (model cx.prog cx.w) A t (fun f s' => ∃ v' ρ', f = .ret v' ∧ FullS env ρ s.heap ρ' s'.heap ∧ Rel cx H' ρ' s' ∧ (VR cx ρ' s'.heap v v' ∧ EnvSt cx env sc ρ' s'.heap)) (fun _ _ => False) s
  | .exc c Γ' H' => wpAny (model cx.prog cx.w) A t (fun _ _ => False) (fun e s' => ∃ ρ', FullS env ρ s.heap ρ' s'.heap ∧ Rel cx H' ρ' s' ∧ EnvOk cx env sc ns Γ' ρ' s'.heap ∧ Flying cx ρ' s.heap s'.heap c e) s
noncomputable def SimS (cx : Cx) (A : Around) (l : List Env) (env : Env) (sc : Scope) (ns : List (Option Str)) (t : Sem Flow) (m : Env' → Hp → ResS) : Prop :=
  ∀ (Γ : Env') (H : Hp) (ρ : Rho) (s : Shared), Rel cx H ρ s → EnvOk cx env sc ns Γ ρ s.heap → FramesOk cx l ρ s.heap → SimSAt cx A env sc ns (m Γ H) t ρ s

/- an expression's part of a statement -/
theorem SimSAt.bind {α β : Type} {t : Sem α} {m : M β} {V : β → α → Amb} {Γ : Env'} {H : Hp} {ρ : Rho} {s : Shared} {t' : Sem Flow} {g : β → Hp → ResS} {K : α → Sem Flow} (e0 : EnvOk cx env sc ns Γ ρ s.heap) (x : SimAt cx A (m H) t V ρ s)
    (y : ∀ b a H' ρ' s', m H = .ok b H' → Full ρ s.heap ρ' s'.heap → Rel cx H' ρ' s' → EnvOk cx env sc ns Γ ρ' s'.heap → (V b a).P ρ' s'.heap → SimSAt cx A env sc ns (g b H') (K a) ρ' s')
    (k : ∀ Q E, wpAny (model cx.prog cx.w) A t (fun a s' => wpAny (model cx.prog cx.w) A (K a) Q E s') E s → wpAny (model cx.prog cx.w) A t' Q E s) :
    SimSAt cx A env sc ns (bndS m Γ g H) t' ρ s := by
  unfold bndS
  cases e : m H with
  | bad => trivial
  | exc c H' =>
    rw [e] at x
    refine k _ _ (wpAny_mono x (fun _ _ q => q.elim) fun ex s' ⟨ρ', F, R, fl⟩ => ⟨ρ', F.toS, R, e0.full F, fl⟩)
  | ok b H' =>
    rw [e] at x
    show SimSAt cx A env sc ns (g b H') t' ρ s
    cases e2 : g b H' with
    | bad => trivial
    | next Γ2 H2 =>
      refine k _ _ (wpAny_mono x (fun a s' ⟨ρ', F, R, v⟩ => ?_) fun _ _ q => q.elim)
      have z := y b a H' ρ' s' e F R (e0.full F) v
      rw [e2] at z
      exact wpAny_mono z (fun f s'' ⟨h1, ρ'', F', R', e'⟩ => ⟨h1, ρ'', F.toS.trans F', R', e'⟩) fun _ _ q => q.elim
    | ret v2 H2 =>
      refine k _ _ (wpAny_mono x (fun a s' ⟨ρ', F, R, v⟩ => ?_) fun _ _ q => q.elim)
      have z := y b a H' ρ' s' e F R (e0.full F) v
      rw [e2] at z
      exact wpAny_mono z (fun f s'' ⟨v', ρ'', h1, F', R', e'⟩ => ⟨v', ρ'', h1, F.toS.trans F', R', e'⟩) fun _ _ q => q.elim
    | exc c2 Γ2 H2 =>
      refine k _ _ (wpAny_mono x (fun a s' ⟨ρ', F, R, v⟩ => ?_) fun _ _ q => q.elim)
      have z := y b a H' ρ' s' e F R (e0.full F) v
      rw [e2] at z
      exact wpAny_mono z (fun _ _ q => q) fun ex s'' ⟨ρ'', F', R', e', fl⟩ => ⟨ρ'', F.toS.trans F', R', e', fl.older F.live⟩

/- storing a name of the frame -/
set_option tactic.hygienic true in
theorem store_var {Γ : Env'} {H : Hp} {ρ : Rho} {s : Shared} {i : Nat} {y : Str} {mv : Val} {v : Value} {Q : Unit → Shared → Prop} {E : Value → Shared → Prop} (hlen : Γ.length = ns.length) (hnd : ∀ (i j : Nat) (y : Str), ns[i]? = some (some y) → ns[j]? = some (some y) → i = j)
    (R : Rel cx H ρ s) (e0 : EnvOk cx env sc ns Γ ρ s.heap) (ho : isOwn sc ns i y = true) (hv : VR cx ρ s.heap mv v)
    (k : ∀ h' tk, FullS env ρ s.heap ρ h' → Rel cx H ρ { s with heap := h', toks := tk } → EnvOk cx env sc ns (Γ.set i (some mv)) ρ h' →
      (∃ q o, ((sc.names.lookup y = some .local ∧ q = env.locals) ∨ (sc.names.lookup y = some .cell ∧ env.cells.lookup y = some q)) ∧ Heap.SameBut q s.heap h' ∧ h'.get? q = some o) → Q () { s with heap := h', toks := tk }) :
    wpAny (model cx.prog cx.w) A (storeName env y v) Q E s := by
  have hown : (sc.names.lookup y = some .local ∨ sc.names.lookup y = some .cell) ∧ ns[i]? = some (some y) := by
    unfold isOwn at ho
    rw [Bool.and_eq_true] at ho
    refine ⟨?_, ?_⟩
    · have := ho.1; split at this <;> simp_all
    · have := ho.2
      split at this
      · rename_i z ez; rw [ez, of_decide_eq_true this]
      · cases this
  obtain ⟨hk, hi⟩ := hown
  have hiΓ : i < Γ.length := by rw [hlen]; exact (List.getElem?_eq_some_iff.mp hi).1
  have set_i : (Γ.set i (some mv))[i]? = some (some mv) := by rw [List.getElem?_set_self hiΓ]
  have set_j : ∀ j, j ≠ i → (Γ.set i (some mv))[j]? = Γ[j]? := fun j hj => List.getElem?_set_ne (fun q => hj q.symm)
  rcases hk with hk | hk
  · have kd : env.kindOf y = some .local := e0.st.kinds y _ hk
    obtain ⟨m, hm⟩ := e0.st.loc
    refine wpAny_storeName_local kd hm (fun h' hn hs => ?_) (by rw [e0.st.fn]; rfl)
    obtain ⟨o, es, ep, eo, d, _⟩ := id hm
    obtain ⟨o', es', ep', eo', d', _⟩ := id hn
    have n1 : ¬ Fixed o := fun f => f.notDict _ _ d
    have n2 : ∀ C, ¬ IsExcO o C := fun C f => f.notDict _ _ d
    have St : Step ρ s.heap ρ h' := Step.but eo' eo hs n1 n2
    have notc : ∀ z c, env.cells.lookup z = some c → c ≠ env.locals := fun z c hc q => by
      obtain ⟨⟨v, ob, e', dc⟩, _⟩ := e0.st.cells z c hc
      rw [q, eo] at e'; cases e'
      rw [d] at dc; cases dc
    refine (fun a b c => k h' (s.toks + 1) a b c ⟨env.locals, o', .inl ⟨hk, rfl⟩, hs, eo'⟩) ⟨Grow.refl _ _, fun b ob eb _ nb _ => ⟨ob, by rw [hs.2 b nb]; exact eb, .refl ob⟩, SameBut.live hs eo'⟩ (R.but eo' eo hs n1 n2 e0.st.locN e0.st.locB) ⟨?_, by rw [List.length_set]; exact hlen, ?_⟩
    · refine ⟨e0.st.fn, e0.st.glob, e0.st.blt, e0.st.kinds, ⟨_, hn⟩, e0.st.locN, e0.st.locB, fun z c hc => ?_, e0.st.hasCell, e0.st.apart⟩
      obtain ⟨⟨u, hu⟩, c1, c2⟩ := e0.st.cells z c hc
      exact ⟨⟨u, IsCell_keep hu fun ob eb => ⟨ob, by rw [hs.2 c (notc z c hc)]; exact eb, rfl⟩⟩, c1, c2⟩
    · intro j z mz hj hz
      by_cases q : j = i
      · subst q
        rw [set_i] at hz; cases hz
        rw [hi] at hj; cases hj
        exact ⟨v, .inl ⟨kd, _, hn, by simp⟩, hv.step St⟩
      · rw [set_j j q] at hz
        obtain ⟨u, hu, ru⟩ := e0.vals j z mz hj hz
        have zy : z ≠ y := fun e => q (hnd j i y (e ▸ hj) hi)
        refine ⟨u, ?_, ru.step St⟩
        rcases hu with ⟨kz, m', hm', ez⟩ | ⟨kz, c, hc, ez⟩
        · refine .inl ⟨kz, _, hn, ?_⟩
          obtain ⟨o2, es2, ep2, eo2, d2, _, f2⟩ := hm'
          obtain ⟨o3, es3, ep3, eo3, d3, _, f3⟩ := hm
          rw [eo2] at eo3; cases eo3
          rw [d2] at d3; cases d3
          simp only [if_neg zy]
          rw [← f3 z, f2 z]; exact ez
        · exact .inr ⟨kz, c, hc, IsCell_keep ez fun ob eb => ⟨ob, by rw [hs.2 c (notc z c hc)]; exact eb, rfl⟩⟩
  · have kd : env.kindOf y = some .cell := e0.st.kinds y _ hk
    obtain ⟨c, hc⟩ := e0.st.hasCell y (.inl hk)
    obtain ⟨⟨u0, hu0⟩, cn, cb⟩ := e0.st.cells y c hc
    refine wpAny_storeName_cell e0.st.fn kd hc hu0 fun h' hn hs => ?_
    obtain ⟨o, eo, d⟩ := id hu0
    obtain ⟨o', eo', d'⟩ := id hn
    have n1 : ¬ Fixed o := fun f => by rcases f with ⟨_, _, _, f⟩ | ⟨_, _, f⟩ <;> rw [d] at f <;> cases f
    have n2 : ∀ C, ¬ IsExcO o C := fun C f => by obtain ⟨_, ⟨_, f⟩, _⟩ := f; rw [d] at f; cases f
    have St : Step ρ s.heap ρ h' := Step.but eo' eo hs n1 n2
    have notl : env.locals ≠ c := fun q => by
      obtain ⟨m, ob, es, ep, e', dl, _⟩ := e0.st.loc
      rw [q, eo] at e'; cases e'
      rw [d] at dl; cases dl
    have locK : ∀ ob, s.heap.get? env.locals = some ob → ∃ o', h'.get? env.locals = some o' ∧ o'.data = ob.data := fun ob eb => ⟨ob, by rw [hs.2 _ notl]; exact eb, rfl⟩
    refine (fun a b c' => k h' s.toks a b c' ⟨c, o', .inr ⟨hk, hc⟩, hs, eo'⟩) ⟨Grow.refl _ _, fun b ob eb _ _ nb => ⟨ob, by rw [hs.2 b (fun q => nb y (q ▸ hc))]; exact eb, .refl ob⟩, SameBut.live hs eo'⟩ (R.but eo' eo hs n1 n2 cn cb) ⟨?_, by rw [List.length_set]; exact hlen, ?_⟩
    · obtain ⟨m, hm⟩ := e0.st.loc
      refine ⟨e0.st.fn, e0.st.glob, e0.st.blt, e0.st.kinds, ⟨m, Heap_Ns_keep hm locK⟩, e0.st.locN, e0.st.locB, fun z c' hc' => ?_, e0.st.hasCell, e0.st.apart⟩
      obtain ⟨⟨u, hu⟩, c1, c2⟩ := e0.st.cells z c' hc'
      by_cases q : c' = c
      · subst q; exact ⟨⟨_, hn⟩, c1, c2⟩
      · exact ⟨⟨u, IsCell_keep hu fun ob eb => ⟨ob, by rw [hs.2 c' q]; exact eb, rfl⟩⟩, c1, c2⟩
    · intro j z mz hj hz
      by_cases q : j = i
      · subst q
        rw [set_i] at hz; cases hz
        rw [hi] at hj; cases hj
        exact ⟨v, .inr ⟨.inl kd, c, hc, hn⟩, hv.step St⟩
      · rw [set_j j q] at hz
        obtain ⟨u, hu, ru⟩ := e0.vals j z mz hj hz
        have zy : z ≠ y := fun e => q (hnd j i y (e ▸ hj) hi)
        refine ⟨u, ?_, ru.step St⟩
        rcases hu with ⟨kz, m', hm', ez⟩ | ⟨kz, c', hc', ez⟩
        · exact .inl ⟨kz, m', Heap_Ns_keep hm' locK, ez⟩
        · have cc : c' ≠ c := fun e => zy (e0.st.apart z y c' hc' (e ▸ hc))
          exact .inr ⟨kz, c', hc', IsCell_keep ez fun ob eb => ⟨ob, by rw [hs.2 c' cc]; exact eb, rfl⟩⟩
end
end Mine

-- part MNote
namespace Mine
open PySem
/- a heap in which only what an exception under way turns is turned: h the heap that was there before it -/
structure Off (cx : Cx) (ρ : Rho) (h g g' : Heap) : Prop where
  old : ∀ b o o0, g.get? b = some o → h.get? b = some o0 → ∃ o', g'.get? b = some o' ∧ SameUp o o'
  own : ∀ b o, g.get? b = some o → Owned ρ b → g'.get? b = some o
  base : ∀ b o o0, g.get? b = some o → cx.h₀.get? b = some o0 → g'.get? b = some o
  fix : ∀ b o, g.get? b = some o → Fixed o → g'.get? b = some o
  exc : ∀ b o C, g.get? b = some o → IsExcO o C → ∃ o', g'.get? b = some o' ∧ IsExcO o' C
  cell : ∀ b o v, g.get? b = some o → o.data = .cell v → g'.get? b = some o
  dict : ∀ b o es n, g.get? b = some o → o.data = .dict es n → ∃ o', g'.get? b = some o' ∧ SameUp o o'
  live : Live g g'
section
variable {cx : Cx} {ρ ρ₀ : Rho} {h g g' g'' : Heap} {H : Hp} {s : Shared} {env : Env} {sc : Scope} {ns : List (Option Str)} {Γ : Env'} {l : List Env}
theorem Off.refl : Off cx ρ h g g := ⟨fun _ o _ e _ => ⟨o, e, .refl o⟩, fun _ _ e _ => e, fun _ _ _ e _ => e, fun _ _ e _ => e, fun _ o _ e x => ⟨o, e, x⟩, fun _ _ _ e _ => e, fun _ o _ _ e _ => ⟨o, e, .refl o⟩, .refl g⟩
theorem Off.trans (x : Off cx ρ h g g') (y : Off cx ρ h g' g'') : Off cx ρ h g g'' := by
  refine ⟨fun b o o0 e e0 => ?_, fun b o e w => y.own b o (x.own b o e w) w, fun b o o0 e e0 => y.base b o o0 (x.base b o o0 e e0) e0, fun b o e f => y.fix b o (x.fix b o e f) f, fun b o C e f => ?_, fun b o v e d => y.cell b o v (x.cell b o v e d) d, fun b o es n e d => ?_, x.live.trans y.live⟩
  · obtain ⟨o1, e1, u1⟩ := x.old b o o0 e e0
    obtain ⟨o2, e2, u2⟩ := y.old b o1 o0 e1 e0
    exact ⟨o2, e2, u1.trans u2⟩
  · obtain ⟨o1, e1, f1⟩ := x.exc b o C e f
    exact y.exc b o1 C e1 f1
  · obtain ⟨o1, e1, u1⟩ := x.dict b o es n e d
    obtain ⟨o2, e2, u2⟩ := y.dict b o1 es n e1 (u1.data.trans d)
    exact ⟨o2, e2, u1.trans u2⟩
theorem Off.step (x : Off cx ρ h g g') : Step ρ g ρ g' := ⟨⟨[], by simp⟩, fun b o e f n => ⟨x.fix b o e f, n⟩, fun b o C e c n => by obtain ⟨o', e', c'⟩ := x.exc b o C e c; exact ⟨o', e', c', n⟩⟩
theorem Off.rel {h' : Heap} (x : Off cx ρ h s.heap h') (R : Rel cx H ρ s) : Rel cx H ρ { s with heap := h' } :=
  R.same (tk := s.toks) x.step (fun b o w e => x.own b o e w) fun b o e => x.base b o o (R.base b o e) e
theorem Off.full (x : Off cx ρ h g g') (F : Full ρ₀ h ρ g) : Full ρ₀ h ρ g' := ⟨F.grow, fun b o e n => by
    obtain ⟨o1, e1, u1⟩ := F.keep b o e n
    obtain ⟨o2, e2, u2⟩ := x.old b o1 o e1 e
    exact ⟨o2, e2, u1.trans u2⟩, F.live.trans x.live⟩
theorem Off.fullS (x : Off cx ρ h g g') (F : FullS env ρ₀ h ρ g) : FullS env ρ₀ h ρ g' := ⟨F.grow, fun b o e n n1 n2 => by
    obtain ⟨o1, e1, u1⟩ := F.keep b o e n n1 n2
    obtain ⟨o2, e2, u2⟩ := x.old b o1 o e1 e
    exact ⟨o2, e2, u1.trans u2⟩, F.live.trans x.live⟩
theorem Off.nsK (x : Off cx ρ h g g') {a : Addr} {m : Str → Option Value} (n : g.Ns a m) : g'.Ns a m := by
  obtain ⟨o, es, ep, e, d, r⟩ := n
  obtain ⟨o', e', u⟩ := x.dict a o _ _ e d
  exact ⟨o', es, ep, e', u.data.trans d, r⟩
theorem Off.isCell (x : Off cx ρ h g g') {a : Addr} {v : Option Value} (n : g.IsCell a v) : g'.IsCell a v := by
  obtain ⟨o, e, d⟩ := n
  exact ⟨o, x.cell a o _ e d, d⟩
theorem Off.envK (x : Off cx ρ h g g') (w : EnvOk cx env sc ns Γ ρ g) : EnvOk cx env sc ns Γ ρ g' := by
  obtain ⟨m, hm⟩ := w.st.loc
  refine ⟨⟨w.st.fn, w.st.glob, w.st.blt, w.st.kinds, ⟨m, x.nsK hm⟩, w.st.locN, w.st.locB, fun y c hc => ?_, w.st.hasCell, w.st.apart⟩, w.len, fun i y mv hi hm => ?_⟩
  · obtain ⟨⟨v, hv⟩, n, b⟩ := w.st.cells y c hc
    exact ⟨⟨v, x.isCell hv⟩, n, b⟩
  · obtain ⟨v, hv, r⟩ := w.vals i y mv hi hm
    refine ⟨v, ?_, r.step x.step⟩
    rcases hv with ⟨k, m, hm, e⟩ | ⟨k, c, hc, e⟩
    · exact .inl ⟨k, m, x.nsK hm, e⟩
    · exact .inr ⟨k, c, hc, x.isCell e⟩
theorem Off.frames (x : Off cx ρ h g g') (w : FramesOk cx l ρ g) : FramesOk cx l ρ g' := fun env he => by
  obtain ⟨k, L, o, h1, h2, h3, ⟨es, n, h5⟩, h6⟩ := w env he
  obtain ⟨o', e', u⟩ := x.dict L o es n h3 h5
  exact ⟨k, L, o', h1, h2, e', ⟨es, n, u.data.trans h5⟩, h6⟩
theorem Off.push (o : Obj) : Off cx ρ h g (g.push o) := by
  have k : ∀ b o', g.get? b = some o' → (g.push o).get? b = some o' := fun b o' e => Heap.get?_push_of_some o e
  exact ⟨fun b o _ e _ => ⟨o, k b o e, .refl o⟩, fun b o e _ => k b o e, fun b o _ e _ => k b o e, fun b o e _ => k b o e, fun b o _ e x => ⟨o, k b o e, x⟩, fun b o _ e _ => k b o e, fun b o _ _ e _ => ⟨o, k b o e, .refl o⟩, fun b o e => ⟨o, k b o e⟩⟩
/- a record that is new is turned -/
theorem Off.upd {a : Addr} {o : Obj} {vs : Array Value} {f : Array Value → Array Value} (e : g.get? a = some o) (d : o.data = .fields vs) (hn : h.get? a = none) (hb : cx.h₀.get? a = none) (no : ¬ Owned ρ a) (nf : ¬ Fixed o) : Off cx ρ h g (g.update a (Obj.mapFields f)) := by
  have self := Heap.get?_update_self (h := g) (Obj.mapFields f) e (Obj.isFreed_of_fields (Obj.data_mapFields d f))
  have k : ∀ b o', b ≠ a → g.get? b = some o' → (g.update a (Obj.mapFields f)).get? b = some o' := fun b o' n e' => (Heap.get?_update_other _ _ (Ne.symm n)).trans e'
  have is : ∀ b o', g.get? b = some o' → b = a → o' = o := fun b o' e' q => by rw [q, e] at e'; cases e'; rfl
  refine ⟨fun b ob o0 eb e0 => ⟨ob, k b ob (fun q => by rw [q, hn] at e0; cases e0) eb, .refl ob⟩, fun b ob eb w => k b ob (fun q => no (q ▸ w)) eb, fun b ob o0 eb e0 => k b ob (fun q => by rw [q, hb] at e0; cases e0) eb,
    fun b ob eb fx => k b ob (fun q => nf (is b ob eb q ▸ fx)) eb, fun b ob C eb x => ?_, fun b ob v eb db => k b ob (fun q => by rw [is b ob eb q, d] at db; cases db) eb, fun b ob es n eb db => ⟨ob, k b ob (fun q => by rw [is b ob eb q, d] at db; cases db) eb, .refl ob⟩, fun b ob eb => ?_⟩
  · by_cases q : b = a
    · subst q
      rw [e] at eb; cases eb
      exact ⟨_, self, (Obj.cls_mapFields _ _).trans x.1, ⟨_, Obj.data_mapFields d f⟩, by obtain ⟨c, dd, dt, sl⟩ := o; cases d; exact x.2.2⟩
    · exact ⟨ob, k b ob q eb, x⟩
  · by_cases q : b = a
    · subst q; exact ⟨_, self⟩
    · exact ⟨ob, k b ob q eb⟩
/- the frames are made ready -/
theorem Off.slots {S : List Addr} (x : Heap.SlotsOnly S g g') (fr : ∀ b ∈ S, cx.h₀.get? b = none ∧ ¬ Owned ρ b ∧ ∀ o, g.get? b = some o → ∃ es n, o.data = .dict es n) : Off cx ρ h g g' := by
  have k : ∀ b o, b ∉ S → g.get? b = some o → g'.get? b = some o := fun b o n e => (x.2.1 b n).trans e
  have up : ∀ b o, g.get? b = some o → ∃ o', g'.get? b = some o' ∧ SameUp o o' := fun b o e => by
    by_cases m : b ∈ S
    · obtain ⟨sl, e'⟩ := x.2.2 b o e
      exact ⟨_, e', .inr ⟨(fr b m).2.2 o e, rfl⟩⟩
    · exact ⟨o, k b o m e, .refl o⟩
  refine ⟨fun b o _ e _ => up b o e, fun b o e w => k b o (fun m => (fr b m).2.1 w) e, fun b o o0 e e0 => k b o (fun m => by rw [(fr b m).1] at e0; cases e0) e, fun b o e f => k b o (fun m => ?_) e, fun b o C e f => ⟨o, k b o (fun m => ?_) e, f⟩, fun b o v e d => k b o (fun m => ?_) e, fun b o es n e _ => up b o e, fun b o e => ?_⟩
  · obtain ⟨es, n, d⟩ := (fr b m).2.2 o e
    exact f.notDict es n d
  · obtain ⟨es, n, d⟩ := (fr b m).2.2 o e
    exact f.notDict es n d
  · obtain ⟨es, n, d'⟩ := (fr b m).2.2 o e
    rw [d] at d'; cases d'
  · obtain ⟨o', e', _⟩ := up b o e
    exact ⟨o', e'⟩
/- an exception that has a traceback -/
structure Flown (cx : Cx) (ρ : Rho) (h h' : Heap) (c : Nat) (e : Value) : Prop where
  is : ∃ (a C : Addr) (vs : Array Value) (tb : Addr) (tvs : Array Value), e = .ref a ∧ cx.cls[c]? = some (.ref C) ∧ h.get? a = none ∧ h'.get? a = some { cls := .ref C, dict := none, data := .fields vs, slots := #[] } ∧ vs.size = 6 ∧ ¬ Owned ρ a ∧
    vs[1]? = some (.ref tb) ∧ h.get? tb = none ∧ h'.get? tb = some { cls := .type "traceback", dict := none, data := .fields tvs, slots := #[] } ∧ tvs.size = 11 ∧ ¬ Owned ρ tb
theorem Flown.to {c : Nat} {e : Value} (x : Flown cx ρ h g c e) : Flying cx ρ h g c e := by
  obtain ⟨a, C, vs, tb, tvs, h1, h2, h3, h4, h5, h6, h7⟩ := x.is
  exact ⟨a, C, vs, h1, h2, h3, h4, h5, h6, .inr ⟨tb, tvs, h7⟩⟩
theorem Flown.vr {c : Nat} {e : Value} (x : Flown cx ρ h g c e) : VR cx ρ g (.exc c) e := by
  obtain ⟨a, C, vs, tb, tvs, rfl, h2, h3, h4, h5, h6, _⟩ := x.is
  exact .exc h4 h6 h2 ⟨rfl, ⟨_, rfl⟩, rfl⟩
theorem rec_not_fixed {C : Addr} {vs : Array Value} : ¬ Fixed { cls := .ref C, dict := none, data := .fields vs, slots := #[] } := by
  rintro (⟨q, _⟩ | ⟨q, _⟩) <;> cases q
theorem tb_not_fixed {vs : Array Value} : ¬ Fixed { cls := .type "traceback", dict := none, data := .fields vs, slots := #[] } := by
  rintro (⟨q, _⟩ | ⟨q, _⟩)
  · exact absurd (show Value.type "traceback" = Value.type "tuple" from q) (by decide)
  · exact absurd (show Value.type "traceback" = Value.type "range" from q) (by decide)
theorem frames_fun (w : FramesOk cx l ρ g) : g.FunFrames cx.h₀ l := by
  induction l with
  | nil => trivial
  | cons env l ih =>
    obtain ⟨k, L, o, h1, h2, h3, ⟨es, n, h5⟩, _⟩ := w env (.head _)
    exact ⟨k, ⟨L, o, h1, h2, h3, fun vs q => by rw [h5] at q; cases q⟩, ih fun e he => w e (.tail _ he)⟩
theorem frames_mem (w : FramesOk cx l ρ g) : ∀ b ∈ l.filterMap (·.frame), cx.h₀.get? b = none ∧ ¬ Owned ρ b ∧ ∀ o, g.get? b = some o → ∃ es n, o.data = .dict es n := fun b hb => by
  obtain ⟨env, he, hf⟩ := List.mem_filterMap.mp hb
  obtain ⟨k, L, o, h1, h2, h3, h5, h6⟩ := w env he
  rw [h1] at hf; cases hf
  exact ⟨h2, h6, fun o' e' => by rw [h3] at e'; cases e'; exact h5⟩
end
section
variable {cx : Cx} {ρ : Rho} {h : Heap} {A : Around} {env : Env} {outer : List Env} {L : Addr} {s : Shared} {Q : Unit → Shared → Prop} {E : Value → Shared → Prop} {c : Nat} {e : Value} {H : Hp}
/- a new entry of a traceback -/
theorem wp_entry {a C : Addr} {vs : Array Value} {head : Value} {hn : Bool} (hfr : A.frames = some (env :: outer)) (hf : env.frame = some L) (w : FramesOk cx (env :: outer) ρ s.heap) (R : Rel cx H ρ s) (lb : Live cx.h₀ h) (lh : Live h s.heap) (hC : cx.cls[c]? = some (.ref C)) (ha : h.get? a = none) (ga : s.heap.get? a = some { cls := .ref C, dict := none, data := .fields vs, slots := #[] }) (hz : vs.size = 6) (no : ¬ Owned ρ a)
    (k : ∀ h', Off cx ρ h s.heap h' → Flown cx ρ h h' c (.ref a) → Q () { s with heap := h' }) :
    wpAny (model cx.prog cx.w) A (do let x ← frameOf env; let pl ← entryPlaceOf L hn; let b ← EntryCells.newEntry head x .none (rawInt L) .none pl; setField (.ref a) 1 b) Q E s := by
  refine wpAny_bind (wpAny_frameOf_fun hfr (frames_fun w) hf fun h₁ hs => ?_)
  have o1 : Off cx ρ h s.heap h₁ := Off.slots hs (frames_mem w)
  refine wpAny_bind (wpAny_entryPlaceOf fun pl hpl => ?_)
  unfold EntryCells.newEntry newFields
  refine wpAny_bind (wpAny_newObj_type ?_ (hpl.sizeOk5 _ _ _ _ _))
  have na : a ∉ (env :: outer).filterMap (·.frame) := fun m => by
    obtain ⟨es, n, d⟩ := (frames_mem w a m).2.2 _ ga
    cases d
  have ga1 : h₁.get? a = some { cls := .ref C, dict := none, data := .fields vs, slots := #[] } := (hs.2.1 a na).trans ga
  generalize ht : ({ cls := .type "traceback", dict := none, data := .fields ([head, .ref L, .none, rawInt L, .none] ++ (if pl.isEmpty then List.replicate 6 Value.none else pl)).toArray } : Obj) = t
  have sz : ([head, .ref L, .none, rawInt L, .none] ++ (if pl.isEmpty then List.replicate 6 Value.none else pl)).toArray.size = 11 := by
    rcases hpl with rfl | ⟨_, _, _, _, _, _, _, rfl⟩ <;> rfl
  have ga2 : (h₁.push t).get? a = some { cls := .ref C, dict := none, data := .fields vs, slots := #[] } := Heap.get?_push_of_some t ga1
  refine wpAny_setField ga2 rfl (by omega) ?_
  have ne : h₁.objs.size ≠ a := Nat.ne_of_gt (Heap.lt_size ga1)
  have gt : (h₁.push t).get? h₁.objs.size = some t := Heap.get?_push_size h₁ (by rw [← ht]; rfl)
  have R1 : Rel cx H ρ { s with heap := h₁ } := o1.rel R
  have hb : cx.h₀.get? a = none := lb.none ha
  have o2 : Off cx ρ h s.heap ((h₁.push t).update a (Obj.mapFields (·.setIfInBounds 1 (Value.ref h₁.objs.size)))) := (o1.trans (Off.push t)).trans (Off.upd ga2 rfl ha hb no rec_not_fixed)
  refine k _ o2 ⟨a, C, vs.setIfInBounds 1 (.ref h₁.objs.size), h₁.objs.size, _, rfl, hC, ha, Heap.get?_update_self _ ga2 rfl, by rw [Array.size_setIfInBounds]; exact hz, no, ?_, ?_, ((Heap.get?_update_other _ _ (Ne.symm ne)).trans gt).trans (congrArg some ht.symm), sz, R1.fresh_not (fresh_none h₁)⟩
  · rw [Array.getElem?_setIfInBounds_self_of_lt (by omega)]
  · refine lh.none ?_
    rw [hs.1]; exact fresh_none s.heap
theorem wp_note (hfr : A.frames = some (env :: outer)) (hf : env.frame = some L) (w : FramesOk cx (env :: outer) ρ s.heap) (R : Rel cx H ρ s) (lb : Live cx.h₀ h) (lh : Live h s.heap) (fl : Flying cx ρ h s.heap c e)
    (k : ∀ h', Off cx ρ h s.heap h' → Flown cx ρ h h' c e → Q () { s with heap := h' }) : wpAny (model cx.prog cx.w) A (noteFrame e env) Q E s := by
  obtain ⟨a, C, vs, rfl, hC, ha, ga, hz, no, h7⟩ := fl.is
  unfold noteFrame
  simp only [hf]
  rcases h7 with h1 | ⟨tb, tvs, h1, htb, gtb, hzt, not⟩
  · refine wpAny_bind (wpAny_field ga rfl h1 ?_)
    rw [if_neg (by decide)]
    exact wp_entry hfr hf w R lb lh hC ha ga hz no k
  · refine wpAny_bind (wpAny_field ga rfl h1 ?_)
    rw [if_pos (show (Value.ref tb != Value.none) = true from by simp)]
    obtain ⟨x3, h3⟩ : ∃ x, tvs[3]? = some x := ⟨_, Array.getElem?_eq_getElem (by omega)⟩
    refine wpAny_bind (wpAny_field gtb rfl h3 ?_)
    by_cases q : (x3 == rawInt L) = true
    · rw [if_pos q]
      exact wpAny_pure (k _ Off.refl ⟨a, C, vs, tb, tvs, rfl, hC, ha, ga, hz, no, h1, htb, gtb, hzt, not⟩)
    · rw [if_neg q]
      refine wpAny_bind (wpAny_setField gtb rfl (by omega) ?_)
      have o1 : Off cx ρ h s.heap (s.heap.update tb (Obj.mapFields (·.setIfInBounds 3 Value.none))) := Off.upd gtb rfl htb (lb.none htb) not tb_not_fixed
      have ne : tb ≠ a := fun q => by rw [q, ga] at gtb; cases gtb
      exact wp_entry (s := { s with heap := s.heap.update tb (Obj.mapFields (·.setIfInBounds 3 Value.none)) }) hfr hf (o1.frames w) (o1.rel R) lb (lh.trans o1.live) hC ha ((Heap.get?_update_other _ _ ne).trans ga) hz no fun h' o' fl' => k h' (o1.trans o') fl'
theorem wp_flight {fr : Option Addr} (lb : Live cx.h₀ h) (fl : Flown cx ρ h s.heap c e) (k : ∀ h', Off cx ρ h s.heap h' → Flown cx ρ h h' c e → Q () { s with heap := h' }) : wpAny (model cx.prog cx.w) A (setFlight e fr) Q E s := by
  obtain ⟨a, C, vs, tb, tvs, rfl, hC, ha, ga, hz, no, h1, htb, gtb, hzt, not⟩ := fl.is
  unfold setFlight
  refine wpAny_bind (wpAny_field ga rfl h1 ?_)
  rw [if_pos (show (Value.ref tb != Value.none) = true from by simp)]
  refine wpAny_setField gtb rfl (by omega) ?_
  have ne : tb ≠ a := fun q => by rw [q, ga] at gtb; cases gtb
  exact k _ (Off.upd gtb rfl htb (lb.none htb) not tb_not_fixed) ⟨a, C, vs, tb, _, rfl, hC, ha, (Heap.get?_update_other _ _ ne).trans ga, hz, no, h1, htb, Heap.get?_update_self _ gtb rfl, by rw [Array.size_setIfInBounds]; exact hzt, not⟩
theorem wp_leaving (hfr : A.frames = some (env :: outer)) (hf : env.frame = some L) (w : FramesOk cx (env :: outer) ρ s.heap) (R : Rel cx H ρ s) (lb : Live cx.h₀ h) (lh : Live h s.heap) (fl : Flying cx ρ h s.heap c e)
    (k : ∀ h', Off cx ρ h s.heap h' → Flown cx ρ h h' c e → Q () { s with heap := h' }) : wpAny (model cx.prog cx.w) A (leaving env e) Q E s := by
  unfold leaving
  exact wpAny_bind (wp_note hfr hf w R lb lh fl fun h1 o1 fl1 => wp_flight (s := { s with heap := h1 }) lb fl1 fun h2 o2 fl2 => k h2 (o1.trans o2) fl2)
/- an exception comes back from an activation of one's own -/
theorem wp_back (lb : Live cx.h₀ h) (fl : Flown cx ρ h s.heap c e) (k : ∀ h', Off cx ρ h s.heap h' → Flown cx ρ h h' c e → E e { s with heap := h' }) : cameBackBy (model cx.prog cx.w) A env E e s := by
  obtain ⟨a, C, vs, tb, tvs, rfl, hC, ha, ga, hz, no, h1, htb, gtb, hzt, not⟩ := fl.is
  unfold cameBackBy
  refine wpAny_bind (wpAny_field ga rfl h1 ?_)
  rw [if_neg (show ¬ ((Value.ref tb == Value.none) = true) from by simp)]
  exact wp_flight lb ⟨a, C, vs, tb, tvs, rfl, hC, ha, ga, hz, no, h1, htb, gtb, hzt, not⟩ fun h' o' fl' => k h' o' fl'
end
end Mine

-- part MFun
namespace Mine
open PySem

/- calls of the text's defs do as the mini functions do -/
noncomputable def FunsOk (cx : Cx) (Φ : Funs) (d : Nat) : Prop :=
  ∀ (k : Nat) (a : Addr) (args : List Val) (vals : List Value) (A : Around) (l : List Env), cx.fns[k]? = some a → RoomF A d → A.frames = some l →
    Sim cx A ((Amb.vrs cx args vals).and (Amb.frames cx l)) (call (.ref a) vals) (Φ k args) (Amb.vr cx)

section
variable {cx : Cx} {N : Names} {A : Around} {env : Env} {sc : Scope} {ns : List (Option Str)} {Γ : Env'} {Φ : Funs} {d : Nat} {l : List Env}

/- a def's object -/
theorem Base.func (B : Base cx N) {k : Nat} {a : Addr} (hk : cx.fns[k]? = some a) (hd : ∃ f, cx.T.funs[k]? = some f) : ∃ o fd, cx.h₀.get? a = some o ∧ o.data = .func fd := by
  obtain ⟨f, hf⟩ := hd
  obtain ⟨o, fd, body, ns, e, _, d, _⟩ := (B.fns k a f hk hf).is
  exact ⟨o, fd, e, d⟩

theorem sim_callU (B : Base cx N) {f : Nat} (hΦ : ∀ a args vals, cx.fns[f]? = some a → Sim cx A ((Amb.vrs cx args vals).and (Amb.frames cx l)) (call (.ref a) vals) (Φ f args) (Amb.vr cx)) {x : Str} {xs : List Expr} {es : MEs} {np pos : Pos} (hg : isGlob sc x = true) (hk : hasNo N.funs x f = true) (hex : ∃ g, cx.T.funs[f]? = some g) (hes : ckEs N sc ns es xs = true)
    (y : Sim cx A ((Amb.env cx env sc ns Γ).and (Amb.frames cx l)) (spliced (xs.map fun e => (false, eval e env))) (evalEs cx.T Φ es Γ) (Amb.vrs cx)) :
    Sim cx A ((Amb.env cx env sc ns Γ).and (Amb.frames cx l)) (eval (.Call (.Name x np) xs [] pos) env) (evalE cx.T Φ (.call f es) Γ) (Amb.vr cx) := by
  obtain ⟨mg, mb, ng, nb, q, _⟩ := B.ns
  obtain ⟨a, ha, hx⟩ := q x f (hasNo_eq hk)
  obtain ⟨o, fd, ho, hd⟩ := B.func ha hex
  intro H ρ s R p
  rw [ev_call]
  refine SimK.mono (simK_args (f := .ref a) (K := fun vs Q E s => (s.heap.get? a = some o ∧ o.data = .func fd) ∧ wpAny (model cx.prog cx.w) A (call (.ref a) vs) Q E s) (fun e => ckEs_nil (e ▸ hes)) R (y H ρ s R p) ?_ ?_) ?_
  · intro ms vs H1 ρ1 s1 _ F1 R1 vrs
    exact SimK.andK ⟨R1.base _ _ ho, hd⟩ (hΦ a ms vs ha H1 ρ1 s1 R1 ⟨vrs, (Amb.frames cx l).st _ _ _ _ p.2 F1⟩)
  · exact fun vs Q E Q' E' s h k1 k2 => ⟨h.1, wpAny_mono h.2 k1 k2⟩
  · intro Q E h
    refine wpAny_Call_ofName (wp_glob R p.1.st hg ng nb (.inl hx) ?_)
    rw [plainArgs_trees pos (ckEs_plain hes)]
    exact Calls.callWith_function (o := o) (fd := fd) (wpAny_mono h (fun b s₁ h₁ => by rw [h₁.1]; exact h₁.2) fun _ _ q => q)

/-! ## entering a def -/
theorem zip_lookup_get {α : Type} : ∀ {ns : List Str} {vs : List α} {i : Nat} {y : Str} {v : α}, ns.Nodup → ns[i]? = some y → vs[i]? = some v → (ns.zip vs).lookup y = some v
  | [], _, _, _, _, _, h, _ => by simp at h
  | _ :: _, [], _, _, _, _, _, h => by simp at h
  | n :: ns, u :: vs, 0, y, v, _, h1, h2 => by simp at h1 h2; subst h1 h2; simp [List.zip_cons_cons]
  | n :: ns, u :: vs, i + 1, y, v, nd, h1, h2 => by
    simp at h1 h2
    have ne : (y == n) = false := by
      have : y ∈ ns := List.mem_of_getElem? h1
      simpa using fun e : y = n => (List.nodup_cons.mp nd).1 (e ▸ this)
    rw [List.zip_cons_cons, List.lookup_cons, ne]
    exact zip_lookup_get (List.nodup_cons.mp nd).2 h1 h2
theorem filterMap_zip : ∀ {ns : List Str} {vs : List Value}, ns.Nodup → vs.length = ns.length → (ns.filterMap fun n => ((ns.zip vs).lookup n).map (n, ·)) = ns.zip vs := by
  have gen : ∀ (ns : List Str) (vs : List Value) (look : Str → Option Value), vs.length = ns.length → (∀ (i : Nat) (y : Str) (v : Value), ns[i]? = some y → vs[i]? = some v → look y = some v) → (ns.filterMap fun n => (look n).map (n, ·)) = ns.zip vs := by
    intro ns
    induction ns with
    | nil => intro vs look _ _; rfl
    | cons n ns ih =>
      intro vs look hl k
      cases vs with
      | nil => simp at hl
      | cons v vs =>
        have e := k 0 n v (by simp) (by simp)
        rw [List.filterMap_cons, e]
        simp only [Option.map_some, List.zip_cons_cons]
        rw [ih vs look (by simpa using hl) fun i y u h1 h2 => k (i + 1) y u (by simpa using h1) (by simpa using h2)]
  intro ns vs nd hl
  exact gen ns vs _ hl fun i y v h1 h2 => zip_lookup_get nd h1 h2
theorem bindArgs_plain {fd : FuncData} {vals : List Value} {names : List Str} (h1 : fd.params.posonlyargs = []) (h2 : fd.params.args.map (·.arg) = names) (h3 : fd.params.vararg = none) (h4 : fd.params.kwonlyargs = []) (h5 : fd.params.kwarg = none) (h6 : fd.defaults = .none)
    (nd : names.Nodup) (hl : vals.length = names.length) : bindArgs fd ⟨vals, []⟩ = pure (names.zip vals) := by
  unfold bindArgs
  have hs : seqItems? Value.none = pure none := rfl
  have hmiss : ∀ k : Nat, ((names.take k).filter fun n => ((names.zip vals).lookup n).isNone) = [] := by
    intro k
    rw [List.filter_eq_nil_iff]
    intro n hn
    obtain ⟨i, hi⟩ := List.mem_iff_getElem?.mp (List.mem_of_mem_take hn)
    have lt : i < vals.length := by rw [hl]; exact (List.getElem?_eq_some_iff.mp hi).1
    rw [zip_lookup_get nd hi (List.getElem?_eq_getElem lt)]
    simp
  simp only [h1, h2, h3, h4, h5, h6, List.map_nil, List.nil_append, List.append_nil, hs, pure_bind, hl, List.forIn_nil, Option.getD_none, List.length_nil, Nat.sub_zero, List.drop_nil, Nat.lt_irrefl, decide_false, Bool.false_and, Bool.false_eq_true, if_false, hmiss, List.isEmpty_nil, Bool.not_true, List.zip_nil_right, filterMap_zip nd hl]

set_option tactic.hygienic true in
theorem cells_has : ∀ {names : List (Str × NameKind)} {n : Nat} {acc : List (Str × Addr)} {y : Str}, ((y, NameKind.cell) ∈ names ∨ (acc.lookup y).isSome = true) → ((cellsFrom n names acc).lookup y).isSome = true
  | [], _, _, _, h => by
    rcases h with h | h
    · cases h
    · exact h
  | (z, k) :: r, n, acc, y, h => by
    unfold cellsFrom
    split
    · rename_i hk
      refine cells_has ?_
      rcases h with h | h
      · rcases List.mem_cons.mp h with e | h
        · cases e; right; simp
        · exact .inl h
      · right
        rw [List.lookup_cons]
        split
        · rfl
        · exact h
    · rename_i hk
      refine cells_has ?_
      rcases h with h | h
      · rcases List.mem_cons.mp h with e | h
        · cases e; simp at hk
        · exact .inl h
      · exact .inr h
theorem bindL_get {kd : Str → Option NameKind} : ∀ {binds : List (Str × Value)} {m : Str → Option Value} {y : Str} {v : Value}, (binds.map (·.1)).Nodup → (y, v) ∈ binds → kd y = some .local → bindL kd binds m y = some v := by
  have keep : ∀ (binds : List (Str × Value)) (m : Str → Option Value) (y : Str), y ∉ binds.map (·.1) → bindL kd binds m y = m y := by
    intro binds
    induction binds with
    | nil => intro m y _; rfl
    | cons b r ih =>
      intro m y hy
      obtain ⟨n, v⟩ := b
      simp only [List.map_cons, List.mem_cons, not_or] at hy
      unfold bindL
      rw [ih _ _ hy.2]
      split
      · simp [hy.1]
      · rfl
  intro binds
  induction binds with
  | nil => intro m y v _ h _; cases h
  | cons b r ih =>
    intro m y v nd h hk
    obtain ⟨n, u⟩ := b
    rw [List.map_cons, List.nodup_cons] at nd
    unfold bindL
    rcases List.mem_cons.mp h with e | h
    · cases e
      rw [keep _ _ _ nd.1, if_pos hk]
      simp
    · exact ih nd.2 h hk
theorem bindC_get {kd : Str → Option NameKind} : ∀ {binds : List (Str × Value)} {m : Str → Option Value} {y : Str} {v : Value}, (binds.map (·.1)).Nodup → (y, v) ∈ binds → kd y ≠ some .local → bindC kd binds m y = some v := by
  have keep : ∀ (binds : List (Str × Value)) (m : Str → Option Value) (y : Str), y ∉ binds.map (·.1) → bindC kd binds m y = m y := by
    intro binds
    induction binds with
    | nil => intro m y _; rfl
    | cons b r ih =>
      intro m y hy
      obtain ⟨n, v⟩ := b
      simp only [List.map_cons, List.mem_cons, not_or] at hy
      unfold bindC
      rw [ih _ _ hy.2]
      split
      · rfl
      · simp [hy.1]
  intro binds
  induction binds with
  | nil => intro m y v _ h _; cases h
  | cons b r ih =>
    intro m y v nd h hk
    obtain ⟨n, u⟩ := b
    rw [List.map_cons, List.nodup_cons] at nd
    unfold bindC
    rcases List.mem_cons.mp h with e | h
    · cases e
      rw [keep _ _ _ nd.1, if_neg hk]
      simp
    · exact ih nd.2 h hk

/- the statements of a def's body do as the mini statements do -/
noncomputable def BodyOk (cx : Cx) (N : Names) (Φ : Funs) (d : Nat) : Prop :=
  ∀ (body : MSs) (stmts : List Stmt) (env : Env) (sc : Scope) (ns : List (Option Str)) (A : Around) (l : List Env), ckSs N sc ns body stmts = true → (∀ (i j : Nat) (y : Str), ns[i]? = some (some y) → ns[j]? = some (some y) → i = j) → Room A d → A.frames = some (env :: l) →
    env.frame = some env.locals → SimS cx A (env :: l) env sc ns (execs stmts env) (execSs cx.T Φ body)

theorem nodupS_inj : ∀ {ns : List (Option Str)}, nodupS ns = true → ∀ (i j : Nat) (y : Str), ns[i]? = some (some y) → ns[j]? = some (some y) → i = j
  | [], _, i, _, _, h, _ => by simp at h
  | none :: r, nd, i, j, y, h1, h2 => by
    cases i with
    | zero => simp at h1
    | succ i => cases j with
      | zero => simp at h2
      | succ j => simp at h1 h2; rw [nodupS_inj (by simpa [nodupS] using nd) i j y h1 h2]
  | some x :: r, nd, i, j, y, h1, h2 => by
    simp only [nodupS, Bool.and_eq_true, Bool.not_eq_true', List.contains_eq_mem, decide_eq_false_iff_not] at nd
    cases i with
    | zero =>
      cases j with
      | zero => rfl
      | succ j =>
        simp at h1 h2
        subst h1
        exact absurd (List.mem_of_getElem? h2) nd.1
    | succ i =>
      cases j with
      | zero =>
        simp at h1 h2
        subst h2
        exact absurd (List.mem_of_getElem? h1) nd.1
      | succ j =>
        simp at h1 h2
        rw [nodupS_inj nd.2 i j y h1 h2]
theorem nodup_of_inj {ns : List Str} (h : ∀ (i j : Nat) (y : Str), (ns.map some)[i]? = some (some y) → (ns.map some)[j]? = some (some y) → i = j) : ns.Nodup := by
  refine List.pairwise_iff_getElem.mpr fun i j hi hj lt e => ?_
  have := h i j ns[i] (by rw [List.getElem?_map, List.getElem?_eq_getElem hi]; rfl) (by rw [List.getElem?_map, List.getElem?_eq_getElem hj, e]; rfl)
  omega

theorem ckF_parts {f : MFun} {names : List Str} {params : Arguments} {body : List Stmt} {sc : Scope} (h : ckF N f names params body sc = true) :
    f.arity + f.nvars = names.length ∧ names.take f.arity = params.args.map (·.arg) ∧ params.posonlyargs = [] ∧ params.vararg = none ∧ params.kwonlyargs = [] ∧ params.kwarg = none ∧ nodupS (names.map some) = true ∧
      sc.isCoroutine = false ∧ sc.isGenerator = false ∧ sc.kind = .function ∧ ckSs N sc (names.map some) f.body body = true ∧
      (∀ p ∈ sc.names, p.2 = .cell → sc.names.lookup p.1 = some .cell) ∧ (∀ p ∈ sc.names, p.2 ≠ .free) ∧ (∀ y ∈ names.take f.arity, sc.names.lookup y = some .local ∨ sc.names.lookup y = some .cell) := by
  unfold ckF at h
  simp only [Bool.and_eq_true, decide_eq_true_eq, List.isEmpty_iff, Option.isNone_iff_eq_none, Bool.not_eq_true'] at h
  obtain ⟨⟨⟨⟨⟨⟨⟨⟨⟨⟨⟨⟨⟨⟨h1, h2⟩, h3⟩, h4⟩, h5⟩, h6⟩, h7⟩, h8⟩, h9⟩, h10⟩, h11⟩, h12⟩, h13⟩, h14⟩, h15⟩ := h
  refine ⟨h1, h2, h3, h4, h5, h6, h9, h10, h11, ?_, h13, ?_, ?_, ?_⟩
  · split at h12
    · assumption
    · cases h12
  · intro p hp hc
    have := List.all_eq_true.mp h14 p hp
    rw [hc] at this
    simp only at this
    split at this
    · assumption
    · cases this
  · intro p hp hc
    have := List.all_eq_true.mp h14 p hp
    rw [hc] at this
    cases this
  · intro y hy
    have := List.all_eq_true.mp h15 y hy
    split at this
    · left; assumption
    · right; assumption
    · cases this

theorem Room.deeper {d : Nat} (r : RoomF A (d + 1)) (env : Env) : Room (A.deeper env) d := ⟨r.hh, by have := r.depth; show A.depth + 1 + _ + _ < _; omega, by have := r.units; show A.units + 3 + _ + _ < _; omega⟩

theorem call_step (B : Base cx N) {k : Nat} {a : Addr} {args : List Val} {vals : List Value} (hk : cx.fns[k]? = some a) (room : RoomQ A (d + 1)) (hfr : A.frames = some l)
    (hb : ∀ (f : MFun) (stmts : List Stmt) (env : Env) (sc : Scope) (ns : List (Option Str)), cx.T.funs[k]? = some f → ckSs N sc ns f.body stmts = true → (∀ (i j : Nat) (y : Str), ns[i]? = some (some y) → ns[j]? = some (some y) → i = j) → (A.deeper env).frames = some (env :: l) → env.frame = some env.locals →
      SimS cx (A.deeper env) (env :: l) env sc ns (execs stmts env) (execSs cx.T (callF cx.T d) f.body)) :
    Sim cx A ((Amb.vrs cx args vals).and (Amb.frames cx l)) (call (.ref a) vals) (callF cx.T (d + 1) k args) (Amb.vr cx) := by
  intro H ρ s R ⟨vrs, fok⟩
  rw [callF]
  cases hf : cx.T.funs[k]? with
  | none => trivial
  | some f =>
    show SimAt cx A (if args.length = f.arity then resOf (execSs cx.T (callF cx.T d) f.body (args.map some ++ List.replicate f.nvars none) H) else .bad) _ _ ρ s
    by_cases hl : args.length = f.arity
    · rw [if_pos hl]
      obtain ⟨o, fd, body, names, ho, hoc, hdata, hcd, hbody, hclo, hglob, hblt, hdf, hkd, hck⟩ := (B.fns k a f hk hf).is
      obtain ⟨c1, c2, c3, c4, c5, c6, c7, c8, c9, c10, c11, c12, c13, c14⟩ := ckF_parts hck
      have nd := nodupS_inj c7
      have nds : names.Nodup := nodup_of_inj nd
      have ndt : (names.take f.arity).Nodup := nds.sublist (List.take_sublist _ _)
      have vlen : vals.length = (names.take f.arity).length := by rw [List.length_take, ← vrs.length, hl]; omega
      have hbind : bindArgs fd ⟨vals, []⟩ = pure ((names.take f.arity).zip vals) := bindArgs_plain c3 c2.symm c4 c5 c6 hdf ndt vlen
      have hkind : ∀ x ∈ (names.take f.arity).zip vals, fd.scope.names.lookup x.1 = some .local ∨ (fd.scope.names.lookup x.1 = some .cell ∧ ((cellsFrom (s.heap.objs.size + 1) fd.scope.names []).lookup x.1).isSome = true) := by
        intro x hx
        rcases c14 x.1 (List.of_mem_zip hx).1 with h | h
        · exact .inl h
        · exact .inr ⟨h, cells_has (.inl (mem_of_lookup h))⟩
      generalize henv : callEnvC fd s.heap.objs.size a = env
      have eloc : env.locals = s.heap.objs.size := by rw [← henv]; rfl
      have escope : env.scope = fd.scope := by rw [← henv]; rfl
      have ecells : env.cells = cellsFrom (s.heap.objs.size + 1) fd.scope.names [] := by rw [← henv]; rfl
      have egl : env.globals = mainGlobals := by rw [← henv]; exact hglob
      have ebl : env.builtins = builtinsNs := by rw [← henv]; exact hblt
      have efr : env.frame = some env.locals := by rw [← henv]; rfl
      have ekind : ∀ y, env.kindOf y = fd.scope.names.lookup y := fun y => by unfold Env.kindOf; rw [escope]
      -- the body
      have main : ∀ s₁, InCallC s env.locals (bindL env.kindOf ((names.take f.arity).zip vals) fun _ => none) env.cells (bindC env.kindOf ((names.take f.arity).zip vals) fun _ => none) s₁ →
          Full ρ s.heap ρ s₁.heap ∧ SimSAt cx (A.deeper env) env fd.scope (names.map some) (execSs cx.T (callF cx.T d) f.body (args.map some ++ List.replicate f.nvars none) H) (execs body env) ρ s₁ := by
        intro s₁ x
        have hkeep := x.toInCall.keep
        have F0 : Full ρ s.heap ρ s₁.heap := Full.more hkeep
        obtain ⟨h₁, tk, e1⟩ := x.toInCall.same
        have R1 : Rel cx H ρ s₁ := by rw [e1] at hkeep ⊢; exact R.more hkeep
        have locfresh : s.heap.get? env.locals = none := by rw [eloc]; exact fresh_none _
        have lvB : Live cx.h₀ s.heap := fun b o e => ⟨o, R.base b o e⟩
        have cfresh : ∀ y c, env.cells.lookup y = some c → s.heap.get? c = none := fun y c hc => fresh_le (by have := x.above y c (mem_of_lookup hc); rw [eloc] at this; exact Nat.le_of_lt this)
        have cellFacts : ∀ y c, env.cells.lookup y = some c → s₁.heap.IsCell c (bindC env.kindOf ((names.take f.arity).zip vals) (fun _ => none) y) := fun y c hc => x.cell y c hc
        have eok : EnvOk cx env fd.scope (names.map some) (args.map some ++ List.replicate f.nvars none) ρ s₁.heap := by
          refine ⟨⟨by rw [escope]; exact c10, egl, ebl, fun y kd hy => ?_, ⟨_, x.toInCall.ns⟩, R.fresh_not locfresh, lvB.none locfresh, fun y c hc => ⟨⟨_, cellFacts y c hc⟩, R.fresh_not (cfresh y c hc), lvB.none (cfresh y c hc)⟩, fun y hy => ?_, fun y z c hy hz => name_of_addr x.apart (mem_of_lookup hy) (mem_of_lookup hz)⟩, by rw [List.length_append, List.length_map, List.length_replicate, List.length_map, hl]; exact c1, ?_⟩
          · rw [ekind, hy]
            cases kd <;> first | rfl | exact .inl rfl | trivial
          · rcases hy with hy | hy
            · rw [ecells]
              exact Option.isSome_iff_exists.mp (cells_has (.inl (mem_of_lookup hy)))
            · exact absurd rfl (c13 _ (mem_of_lookup hy))
          · intro i y mv hi hm
            have hi' : names[i]? = some y := by rw [List.getElem?_map] at hi; cases q : names[i]? <;> rw [q] at hi <;> simp at hi; rw [hi]
            by_cases lt : i < f.arity
            · have ha : args[i]? = some mv := by
                rw [List.getElem?_append_left (by rw [List.length_map, hl]; exact lt), List.getElem?_map] at hm
                cases q : args[i]? <;> rw [q] at hm <;> simp at hm
                rw [hm]
              obtain ⟨v, ev, vr⟩ := vrs.get ha
              have et : (names.take f.arity)[i]? = some y := by rw [List.getElem?_take, if_pos lt]; exact hi'
              have mem : (y, v) ∈ (names.take f.arity).zip vals := by
                refine List.mem_iff_getElem?.mpr ⟨i, ?_⟩
                rw [List.getElem?_zip_eq_some]; exact ⟨et, ev⟩
              have ndz : (((names.take f.arity).zip vals).map (·.1)).Nodup := by
                rw [List.map_fst_zip (by rw [vlen]; exact Nat.le_refl _)]; exact ndt
              refine ⟨v, ?_, vr.step F0.step⟩
              rcases c14 y (List.mem_of_getElem? et) with h | h
              · exact .inl ⟨by rw [ekind]; exact h, _, x.toInCall.ns, bindL_get ndz mem (by rw [ekind]; exact h)⟩
              · obtain ⟨c, hc⟩ := Option.isSome_iff_exists.mp (cells_has (n := s.heap.objs.size + 1) (acc := []) (.inl (mem_of_lookup h)))
                rw [← ecells] at hc
                have := cellFacts y c hc
                rw [bindC_get ndz mem (by rw [ekind, h]; simp)] at this
                exact .inr ⟨.inl (by rw [ekind]; exact h), c, hc, this⟩
            · exfalso
              rw [List.getElem?_append_right (by rw [List.length_map, hl]; omega), List.getElem?_replicate] at hm
              split at hm <;> simp at hm
        refine ⟨F0, hb f body env fd.scope (names.map some) hf c11 nd (by show A.frames.map (env :: ·) = _; rw [hfr]; rfl) efr _ H ρ s₁ R1 eok ?_⟩
        · intro e he
          rcases List.mem_cons.mp he with rfl | he
          · obtain ⟨o', es, ep, eo', d', _⟩ := x.toInCall.ns
            exact ⟨by rw [escope, c10]; simp, e.locals, o', efr, lvB.none locfresh, eo', ⟨_, _, d'⟩, R.fresh_not locfresh⟩
          · exact (fok.full F0) e he
      -- what stands of the caller's heap
      have back : ∀ {s₁ ρ' h'}, Full ρ s.heap ρ s₁ → FullS env ρ s₁ ρ' h' → (∀ y c, env.cells.lookup y = some c → s.heap.get? c = none) → Full ρ s.heap ρ' h' := by
        intro s₁ ρ' h' F0 F1 cf
        refine ⟨?_, fun b ob e n => ?_, F0.live.trans F1.live⟩
        · exact F0.grow.trans F1.grow F0.live
        · obtain ⟨o1, e1, u1⟩ := F0.keep b ob e n
          obtain ⟨o2, e2, u2⟩ := F1.keep b o1 e1 n (fun q => by rw [q, eloc, fresh_none] at e; cases e) (fun y q => by rw [cf y b q] at e; cases e)
          exact ⟨o2, e2, u1.trans u2⟩
      have cf : ∀ y c, env.cells.lookup y = some c → s.heap.get? c = none := fun y c hc => by
        refine fresh_le ?_
        have ok := cellsFrom_ok fd.scope.names (s.heap.push { cls := .type "frame", data := .dict #[] }) (s.heap.objs.size + 1) [] ⟨fun _ _ hm => (nomatch hm), List.Pairwise.nil⟩ (by rw [Heap.size_push]; exact Nat.le_refl _)
        rw [Heap.size_push] at ok
        rw [ecells] at hc
        exact Nat.le_of_succ_le (ok.empty y c (mem_of_lookup hc)).2
      have hlim : s.heap.NoLimit := B.lim.keeps R.base
      have hcd' : s.heap.CodeRec fd.code fd.qualname := hcd.keeps R.base
      generalize hres : execSs cx.T (callF cx.T d) f.body (args.map some ++ List.replicate f.nvars none) H = res at main
      cases res with
      | bad => trivial
      | next Γ' H' =>
        refine wpAny_call (codeAny_call_cells (by have := room.depth; omega) (R.base _ _ ho) hdata hlim hcd' hbody hbind hclo hkind (fun s₁ x => ?_) c8 c9 c10)
        rw [henv] at x ⊢
        obtain ⟨F0, sim⟩ := main s₁ x
        exact wpAny_mono sim (fun fl s' ⟨h1, ρ', F1, R', _⟩ => by subst h1; exact ⟨ρ', back F0 F1 cf, R', .none⟩) fun _ _ q => q.elim
      | ret v H' =>
        refine wpAny_call (codeAny_call_cells (by have := room.depth; omega) (R.base _ _ ho) hdata hlim hcd' hbody hbind hclo hkind (fun s₁ x => ?_) c8 c9 c10)
        rw [henv] at x ⊢
        obtain ⟨F0, sim⟩ := main s₁ x
        exact wpAny_mono sim (fun fl s' ⟨v', ρ', h1, F1, R', vr⟩ => by subst h1; exact ⟨ρ', back F0 F1 cf, R', vr.1⟩) fun _ _ q => q.elim
      | exc c Γ' H' =>
        refine wpAny_call (codeAny_call_cells (by have := room.depth; omega) (R.base _ _ ho) hdata hlim hcd' hbody hbind hclo hkind (fun s₁ x => ?_) c8 c9 c10)
        rw [henv] at x ⊢
        obtain ⟨F0, sim⟩ := main s₁ x
        refine wpAny_mono sim (fun _ _ q => q.elim) fun e s' ⟨ρ', F1, R', e0, fl⟩ => ?_
        have w : FramesOk cx (env :: l) ρ' s'.heap := fun en he => by
          rcases List.mem_cons.mp he with rfl | he
          · obtain ⟨m, o', es, ep, eo', d', _⟩ := e0.st.loc
            exact ⟨by rw [e0.st.fn]; simp, en.locals, o', efr, e0.st.locB, eo', ⟨_, _, d'⟩, e0.st.locN⟩
          · exact (fok.full (back F0 F1 cf)) en he
        exact wp_leaving (by show A.frames.map (env :: ·) = _; rw [hfr]; rfl) efr w R' (fun b o e => F0.live b o (R.base b o e)) F1.live fl fun h' o' fl' => ⟨ρ', back F0 (o'.fullS F1) cf, o'.rel R', fl'.to.older F0.live⟩
    · rw [if_neg hl]; trivial
theorem FunsOk.step (B : Base cx N) (hb : BodyOk cx N (callF cx.T d) d) : FunsOk cx (callF cx.T (d + 1)) (d + 1) :=
  fun k a args vals A l hk room hfr => call_step B hk room.q hfr fun f stmts env sc ns _ h1 h2 h3 h4 => hb f.body stmts env sc ns (A.deeper env) l h1 h2 (Room.deeper room env) h3 h4
end
end Mine

-- part MIter
namespace Mine
open PySem

/- an iterator over xs that has handed out i of them -/
inductive ItOk (cx : Cx) (xs : List Val) (I : Addr) (i : Nat) (ρ : Rho) (h : Heap) : Option Nat → Prop
  | list {l : Nat} {p : Addr × Addr} : ρ[l]? = some p → h.IsListIter I p.1 i → ItOk cx xs I i ρ h (some l)
  | tup {a : Addr} {vs : List Value} {n : Nat} : h.get? a = some (tupO vs n) → ¬ Owned ρ a → VRs cx ρ h xs vs → h.IsTupleIter I a i → ItOk cx xs I i ρ h none
  | script {a : Addr} {vs : List Value} {n : Nat} : cx.h₀.get? a = some (listO vs n) → VRs cx ρ h xs vs → h.IsListIter I a i → ItOk cx xs I i ρ h none
  | rng {n : Int} : xs = (List.range n.toNat).map (fun (k : Nat) => Val.int (k : Int)) → IsRangeIter h I (i : Nat) ((n.toNat : Int) - (i : Nat)) 1 → ItOk cx xs I i ρ h none
  | str {x : Str} {t : Tok} {ty : String} : xs = x.cps.toList.map (fun c => Val.str ⟨#[c]⟩) → (ty = "str_ascii_iterator" ∨ ty = "str_iterator") → h.IsStrIter I ty x t i → ItOk cx xs I i ρ h none

/- an iterator's object -/
noncomputable def IterO (o : Obj) : Prop := (∃ vs, o.data = .fields vs) ∧ ∃ n, o.cls = .type n ∧ n ≠ "range"
theorem IterO.not {o : Obj} (x : IterO o) : ¬ Fixed o ∧ ∀ C, ¬ IsExcO o C := by
  obtain ⟨⟨vs, d⟩, n, c, ne⟩ := x
  refine ⟨fun f => ?_, fun C f => ?_⟩
  · rcases f with ⟨_, xs, k, f⟩ | ⟨f, _⟩
    · rw [d] at f; cases f
    · rw [c] at f; cases f; exact ne rfl
  · rw [f.1] at c; cases c
theorem IterO.notDict {o : Obj} (x : IterO o) (es : Array DictEntry) (n : Nat) : o.data ≠ .dict es n := by
  obtain ⟨⟨vs, d⟩, _⟩ := x
  rw [d]; exact fun q => nomatch q
theorem IterO.notCell {o : Obj} (x : IterO o) (v : Option Value) : o.data ≠ .cell v := by
  obtain ⟨⟨vs, d⟩, _⟩ := x
  rw [d]; exact fun q => nomatch q

theorem listO_not {vs : List Value} {n : Nat} : ¬ Fixed (listO vs n) ∧ ∀ C, ¬ IsExcO (listO vs n) C := by
  refine ⟨fun f => ?_, fun C f => by cases f.1⟩
  rcases f with ⟨f, _⟩ | ⟨f, _⟩
  · exact absurd (Value.type.inj f) (by decide)
  · exact absurd (Value.type.inj f) (by decide)
section
variable {cx : Cx} {A : Around} {xs : List Val} {I : Addr} {i : Nat} {ρ ρ' : Rho} {s : Shared} {H : Hp} {src : Option Nat}

theorem ItOk.step {h h' : Heap} (x : ItOk cx xs I i ρ h src) (st : Step ρ h ρ' h') (k : ∀ o, h.get? I = some o → h'.get? I = some o) : ItOk cx xs I i ρ' h' src := by
  cases x with
  | list hp hi => exact .list (st.get hp) (hi.at k)
  | tup e n r hi => exact .tup (st.keepT _ _ e (.inl ⟨rfl, _, _, rfl⟩) n).1 (st.keepT _ _ e (.inl ⟨rfl, _, _, rfl⟩) n).2 (r.step st) (hi.at k)
  | script e r hi => exact .script e (r.step st) (hi.at k)
  | rng e hi => exact .rng e (k _ hi)
  | str e ht hs => obtain ⟨o, e1, e2⟩ := hs; exact .str e ht ⟨o, k o e1, e2⟩
theorem ItOk.obj {h : Heap} (x : ItOk cx xs I i ρ h src) : ∃ o, h.get? I = some o ∧ IterO o := by
  cases x with
  | list hp hi => obtain ⟨o, e, c, d⟩ := hi; exact ⟨o, e, ⟨_, d⟩, _, c, by decide⟩
  | tup e n r hi => obtain ⟨o, e, c, d⟩ := hi; exact ⟨o, e, ⟨_, d⟩, _, c, by decide⟩
  | script e r hi => obtain ⟨o, e, c, d⟩ := hi; exact ⟨o, e, ⟨_, d⟩, _, c, by decide⟩
  | rng e hi => exact ⟨_, hi, ⟨_, rfl⟩, _, rfl, by decide⟩
  | str e ht hs => obtain ⟨o, e, c, d⟩ := hs; exact ⟨o, e, ⟨_, d⟩, _, c, by rcases ht with rfl | rfl <;> decide⟩

set_option tactic.hygienic true in
theorem iter_start {v : Val} {w : Value} (R : Rel cx H ρ s) (vr : VR cx ρ s.heap v w) (e : iterOf v H = some (xs, src)) {Q : Value → Shared → Prop} {E : Value → Shared → Prop}
    (k : ∀ o, (s.heap.push o).get? s.heap.objs.size = some o → ItOk cx xs s.heap.objs.size 0 ρ (s.heap.push o) src → Q (.ref s.heap.objs.size) { s with heap := s.heap.push o }) :
    wpAny (model cx.prog cx.w) A (pyIter w) Q E s := by
  have P := fun o => Full.push ρ s.heap o
  cases vr with
  | @loc l p hp =>
    simp only [iterOf] at e
    split at e
    · rename_i ys hl
      cases e
      obtain ⟨vs, n, _, g, r, z⟩ := R.listAt hl hp
      refine wpAny_pyIter_list (items := vs.toArray) ⟨_, g, rfl, n, rfl⟩ (k _ (Heap.get?_push_size _ rfl) (.list hp ⟨_, Heap.get?_push_size _ rfl, rfl, rfl⟩))
    · cases e
  | @tup a vs n ms g no z r =>
    cases e
    exact wpAny_pyIter_tuple (items := vs.toArray) ⟨_, g, rfl, n, rfl⟩ (k _ (Heap.get?_push_size _ rfl) (.tup (Heap.get?_push_of_some _ g) no (r.step (P _).step) ⟨_, Heap.get?_push_size _ rfl, rfl, rfl⟩))
  | @script a vs n ns g z r =>
    cases e
    exact wpAny_pyIter_list (items := vs.toArray) ⟨_, R.base _ _ g, rfl, n, rfl⟩ (k _ (Heap.get?_push_size _ rfl) (.script g (r.step (P _).step) ⟨_, Heap.get?_push_size _ rfl, rfl, rfl⟩))
  | @rng a n t u v g no z1 z2 =>
    cases e
    refine wpAny_pyIter_range g (small_one (by omega) (by omega) z1 z2) (k _ (Heap.get?_push_size _ rfl) (.rng rfl ?_))
    have e1 : Builtin.Range.rangeSize 0 n 1 = ((n.toNat : Nat) : Int) := by rw [rangeSize_one]; split <;> omega
    rw [e1]
    simpa using Heap.get?_push_size s.heap (o := { cls := .type "range_iterator", data := .fields #[rawInt 0, rawInt (n.toNat : Int), rawInt 1] }) rfl
  | str x t z =>
    cases e
    cases ha : x.cps.all (· < 128)
    · exact wpAny_pyIter_wide ha (k _ (Heap.get?_push_size _ rfl) (.str rfl (.inr rfl) ⟨_, Heap.get?_push_size _ rfl, rfl, rfl⟩))
    · exact wpAny_pyIter_ascii ha (k _ (Heap.get?_push_size _ rfl) (.str rfl (.inl rfl) ⟨_, Heap.get?_push_size _ rfl, rfl, rfl⟩))
  | _ => cases e

/- one turn's item -/
set_option tactic.hygienic true in
theorem iter_item (R : Rel cx H ρ s) (x : ItOk cx xs I i ρ s.heap src) (ck : chk src xs H = true) {m : Val} (hm : xs[i]? = some m) {Q : Option Value → Shared → Prop} {E : Value → Shared → Prop}
    (k : ∀ v h' tk, Heap.SameBut I s.heap h' → (∃ o, h'.get? I = some o) → (∀ st : Step ρ s.heap ρ h', VR cx ρ h' m v ∧ ItOk cx xs I (i + 1) ρ h' src) → Q (some v) { s with heap := h', toks := tk }) :
    wpAny (model cx.prog cx.w) A (pyNext (.ref I)) Q E s := by
  cases x with
  | @list l p hp hi =>
    simp only [chk] at ck
    split at ck
    · rename_i ys hl
      have := sames_eq _ _ ck
      subst this
      obtain ⟨vs, n, _, g, r, z⟩ := R.listAt hl hp
      obtain ⟨v, ev, vr⟩ := r.get hm
      exact wpAny_pyNext_list_item (items := vs.toArray) hi ⟨_, g, rfl, n, rfl⟩ (by simpa using ev) fun h' hi' hs => k v h' s.toks hs (by obtain ⟨o, e, _⟩ := hi'; exact ⟨o, e⟩) fun st => ⟨vr.step st, .list hp hi'⟩
    · cases ck
  | @tup a vs n g no r hi =>
    obtain ⟨v, ev, vr⟩ := r.get hm
    refine wpAny_pyNext_tuple_item (items := vs.toArray) hi ⟨_, g, rfl, n, rfl⟩ (by simpa using ev) fun h' hi' hs => k v h' s.toks hs (by obtain ⟨o, e, _⟩ := hi'; exact ⟨o, e⟩) fun st => ⟨vr.step st, .tup (st.keepT _ _ g (.inl ⟨rfl, _, _, rfl⟩) no).1 no (r.step st) hi'⟩
  | @script a vs n g r hi =>
    obtain ⟨v, ev, vr⟩ := r.get hm
    exact wpAny_pyNext_list_item (items := vs.toArray) hi ⟨_, R.base _ _ g, rfl, n, rfl⟩ (by simpa using ev) fun h' hi' hs => k v h' s.toks hs (by obtain ⟨o, e, _⟩ := hi'; exact ⟨o, e⟩) fun st => ⟨vr.step st, .script g (r.step st) hi'⟩
  | @rng n e hi =>
    subst e
    have lt : i < n.toNat := by
      have := (List.getElem?_eq_some_iff.mp hm).1
      simpa using this
    have hm' : m = .int (i : Int) := by
      rw [List.getElem?_map, List.getElem?_range lt] at hm
      simpa using hm.symm
    subst hm'
    refine wpAny_pyNext_range_item hi (by omega) fun h' hi' hs => k _ h' _ hs ⟨_, hi'⟩ fun st => ⟨.int _ _, .rng rfl ?_⟩
    have e1 : ((i + 1 : Nat) : Int) = (i : Int) + 1 := by omega
    have e2 : ((n.toNat : Int) - ((i + 1 : Nat) : Int)) = (n.toNat : Int) - (i : Int) - 1 := by omega
    rw [e1, ← e1, e2]
    exact hi'
  | @str x t ty e ht hs =>
    subst e
    rw [List.getElem?_map] at hm
    cases hc : x.cps.toList[i]? with
    | none => rw [hc] at hm; cases hm
    | some c =>
      rw [hc] at hm
      simp at hm
      subst hm
      have hc' : x.cps[i]? = some c := by simpa using hc
      have z1 : (⟨#[c]⟩ : Str).length ≤ sizeLine := by show 1 ≤ sizeLine; decide
      rcases ht with rfl | rfl
      · exact wpAny_pyNext_ascii_item hs hc' fun h' hi' hsb => k _ h' _ hsb (by obtain ⟨o, e, _⟩ := hi'; exact ⟨o, e⟩) fun st => ⟨.str _ _ z1, .str rfl (.inl rfl) hi'⟩
      · exact wpAny_pyNext_wide_item hs hc' fun h' hi' hsb => k _ h' _ hsb (by obtain ⟨o, e, _⟩ := hi'; exact ⟨o, e⟩) fun st => ⟨.str _ _ z1, .str rfl (.inr rfl) hi'⟩

/- the end -/
set_option tactic.hygienic true in
theorem iter_end (hh : A.handled = none) (R : Rel cx H ρ s) (x : ItOk cx xs I i ρ s.heap src) (ck : chk src xs H = true) (hm : xs[i]? = none) {Q : Option Value → Shared → Prop} {E : Value → Shared → Prop}
    (k : ∀ h' tk, Heap.ExtBut I s.heap h' → Q none { s with heap := h', toks := tk }) : wpAny (model cx.prog cx.w) A (pyNext (.ref I)) Q E s := by
  cases x with
  | @list l p hp hi =>
    simp only [chk] at ck
    split at ck
    · rename_i ys hl
      have := sames_eq _ _ ck
      subst this
      obtain ⟨vs, n, _, g, r, z⟩ := R.listAt hl hp
      have len := r.length
      refine wpAny_pyNext_list_end (items := vs.toArray) hh hi ⟨_, g, rfl, n, rfl⟩ ?_ fun h' he => k h' s.toks he
      rw [List.getElem?_eq_none_iff] at hm
      simp; omega
    · cases ck
  | @tup a vs n g no r hi =>
    have len := r.length
    refine wpAny_pyNext_tuple_end (items := vs.toArray) hh hi ⟨_, g, rfl, n, rfl⟩ ?_ fun h' he => k h' s.toks he
    rw [List.getElem?_eq_none_iff] at hm
    simp; omega
  | @script a vs n g r hi =>
    have len := r.length
    refine wpAny_pyNext_list_end (items := vs.toArray) hh hi ⟨_, R.base _ _ g, rfl, n, rfl⟩ ?_ fun h' he => k h' s.toks he
    rw [List.getElem?_eq_none_iff] at hm
    simp; omega
  | @rng n e hi =>
    subst e
    rw [List.getElem?_eq_none_iff] at hm
    simp at hm
    exact wpAny_pyNext_range_end hh hi (by omega) fun h' he => k h' s.toks he
  | @str x t ty e ht hs =>
    subst e
    rw [List.getElem?_eq_none_iff] at hm
    simp at hm
    have hn : x.cps[i]? = none := by simp; omega
    rcases ht with rfl | rfl
    · exact wpAny_pyNext_ascii_end hh hs hn fun h' he => k h' s.toks he
    · exact wpAny_pyNext_wide_end hh hs hn fun h' he => k h' s.toks he
end
end Mine

-- part MBool
namespace Mine
open PySem

theorem bnd_assoc {α β γ : Type} (m : M α) (f : α → M β) (g : β → M γ) : (m.bnd f).bnd g = m.bnd fun x => (f x).bnd g := by
  funext H
  unfold M.bnd
  cases m H <;> rfl
theorem ret_bnd {α β : Type} (a : α) (f : α → M β) : (M.ret a).bnd f = f a := rfl
theorem bad_bnd {α β : Type} (f : α → M β) : (M.bad : M α).bnd f = M.bad := rfl

section
variable {α β : Type} {cx : Cx} {A : Around} {P : Amb} {t : Sem α} {m : M β} {V : β → α → Amb}
theorem Sim.rule {tag : String} {k : Unit → Sem α} (x : Sim cx A P (k ()) m V) : Sim cx A P (rule tag >>= k) m V := x.pre fun _ _ _ h => wpAny_bind (wpAny_rule h)
theorem Sim.relse {vs keep : List Value} {k : Unit → Sem α} (x : Sim cx A P (k ()) m V) : Sim cx A P (release vs keep >>= k) m V := x.pre fun _ _ _ h => wpAny_bind (wpAny_release h)
theorem Sim.oper {t : Sem Value} {V : β → Value → Amb} {vs : List Value} (x : Sim cx A P t m V) : Sim cx A P (operate vs t) m V := x.pre fun _ _ _ h => fun Γ p hΓ => by
  rw [Sem.wp_operate]; exact h Γ p hΓ
theorem Sim.of_eq {t' : Sem α} (e : t' = t) (x : Sim cx A P t m V) : Sim cx A P t' m V := e ▸ x
theorem Sim.of_m {m' : M β} (e : m' = m) (x : Sim cx A P t m V) : Sim cx A P t m' V := e ▸ x

/- what is known of a condition -/
noncomputable abbrev BV : Bool → Bool → Amb := fun b b' => Amb.prop (b' = b)
end

section
variable {cx : Cx} {A : Around} {P : Amb} {env : Env} {Φ : Funs} {Γ : Env'}

structure EOk (cx : Cx) (A : Around) (P : Amb) (Φ : Funs) (env : Env) (Γ : Env') (m : ME) (e : Expr) : Prop where
  val : Sim cx A P (eval e env) (evalE cx.T Φ m Γ) (Amb.vr cx)
  tru : Sim cx A P (isTrue e env (eval e env)) ((evalE cx.T Φ m Γ).bnd truth) BV

theorem sim_truthyA {a : Val} {v : Value} : Sim cx A (P.and (Amb.vr cx a v)) (truthy v) (truth a) BV := sim_truthy fun _ _ p => p.2

theorem EOk.of {m : ME} {e : Expr} (x : Sim cx A P (eval e env) (evalE cx.T Φ m Γ) (Amb.vr cx)) (h : isTrue e env (eval e env) = (do let v ← eval e env; standAt e.pos; holding [v] (truthy v))) : EOk cx A P Φ env Γ m e :=
  ⟨x, Sim.of_eq h (x.bind fun b a => Sim.stand (Sim.holding sim_truthyA))⟩

theorem Sim.and1 {α β : Type} {t : Sem α} {m : M β} {V : β → α → Amb} {Q : Amb} (x : Sim cx A P t m V) : Sim cx A (P.and Q) t m V := x.weak fun _ _ p => p.1

theorem eok_bin {op : BOp} {o : Operator} {a b : ME} {l r : Expr} {pos : Pos} (ho : opOk op o = true) (x : EOk cx A P Φ env Γ a l) (y : EOk cx A P Φ env Γ b r) : EOk cx A P Φ env Γ (.bin op a b) (.BinOp l o r pos) := by
  refine EOk.of ?_ rfl
  rw [arm_eval_BinOp, ev_bin]
  exact x.val.bind fun x1 v => (Sim.holding y.val.and1).bind fun y1 w => Sim.stand (Sim.oper (sim_bin ho (fun _ _ p => p.1.2) fun _ _ p => p.2))
theorem eok_neg {a : ME} {l : Expr} {pos : Pos} (x : EOk cx A P Φ env Γ a l) : EOk cx A P Φ env Γ (.neg a) (.UnaryOp .USub l pos) := by
  refine EOk.of ?_ rfl
  rw [arm_eval_UnaryOp, ev_neg]
  exact x.val.bind fun x1 v => Sim.stand (Sim.holding (sim_neg fun _ _ p => p.2))
theorem eok_not {a : ME} {l : Expr} {pos : Pos} (x : EOk cx A P Φ env Γ a l) : EOk cx A P Φ env Γ (.not a) (.UnaryOp .Not l pos) := by
  refine ⟨?_, ?_⟩
  · rw [arm_eval_UnaryOp, ev_not]
    exact x.val.bind fun x1 v => Sim.stand (Sim.holding (sim_not fun _ _ p => p.2))
  · rw [arm_isTrue_UnaryOp, ev_not]
    refine Sim.of_m (m := ((evalE cx.T Φ a Γ).bnd truth).bnd fun b => M.ret (!b)) ?_ (x.tru.bind fun b b' => Sim.ret fun ρ h p => ?_)
    · rw [bnd_assoc, bnd_assoc]
      congr 1; funext x1
      rw [bnd_assoc]
      congr 1
    · have : b' = b := p.2
      show (!b') = !b
      rw [this]

theorem bnd_ret {α : Type} (m : M α) : (m.bnd fun b => M.ret b) = m := by
  funext H
  unfold M.bnd
  cases m H <;> rfl

/- the rest of a chain of `and`s -/
noncomputable def EOks (cx : Cx) (A : Around) (P : Amb) (Φ : Funs) (env : Env) (Γ : Env') (op : BoolOp) (pos : Pos) (m : ME) (ys : List Expr) : Prop :=
  Sim cx A P (boolOp pos op (evalEach ys env)) (evalE cx.T Φ m Γ) (Amb.vr cx) ∧ Sim cx A P (allTrue op ys env) ((evalE cx.T Φ m Γ).bnd truth) BV
theorem EOks.one {op : BoolOp} {pos : Pos} {m : ME} {y : Expr} (x : EOk cx A P Φ env Γ m y) : EOks cx A P Φ env Γ op pos m [y] := by
  refine ⟨x.val, ?_⟩
  rw [arm_allTrue_cons]
  refine Sim.of_m (bnd_ret _).symm (x.tru.bind fun b b' => ?_)
  intro H ρ s R p
  have e : b' = b := p.2
  subst e
  cases op <;> cases b' <;> exact wpAny_pure ⟨ρ, Full.refl _ _, R, rfl⟩
theorem EOks.more {op : BoolOp} {pos : Pos} {m : ME} {y : Expr} {rest : List Expr} (x : EOk cx A P Φ env Γ m (.BoolOp op (y :: rest) pos)) : EOks cx A P Φ env Γ op pos m (y :: rest) := ⟨x.val, x.tru⟩

theorem sim_truthyV {a : Val} {v : Value} : Sim cx A (P.and (Amb.vr cx a v)) (truthy v) (truth a) (fun b b' => Amb.prop (b' = b ∧ v = .bool b)) := by
  intro H ρ s R p
  have x : VR cx ρ s.heap a v := p.2
  cases x with
  | bool b => exact simAt_pure R fun Q E k => wpAny_truthy_bool (k _ s.toks ⟨rfl, rfl⟩)
  | _ => trivial

theorem eok_and {a b : ME} {x y : Expr} {rest : List Expr} {pos : Pos} (hx : EOk cx A P Φ env Γ a x) (hy : EOks cx A P Φ env Γ .And pos b (y :: rest)) : EOk cx A P Φ env Γ (.and a b) (.BoolOp .And (x :: y :: rest) pos) := by
  refine ⟨?_, ?_⟩
  · rw [arm_eval_BoolOp, ev_and]
    refine hx.val.bind (f := fun v => do
      standAt pos
      let t ← holding [v] (truthy v)
      match BoolOp.And, t with
      | .And, false | .Or, true => pure v
      | _, _ => boolOp pos .And (evalEach (y :: rest) env)) fun x1 v => Sim.stand ((Sim.holding sim_truthyV).bind fun b b' => ?_)
    intro H ρ s R p
    obtain ⟨e1, e2⟩ : b' = b ∧ v = .bool b := p.2
    subst e1 e2
    cases b' with
    | true => exact hy.1 H ρ s R p.1.1
    | false => exact wpAny_pure ⟨ρ, Full.refl _ _, R, .bool _⟩
  · rw [arm_isTrue_BoolOp, arm_allTrue_cons, ev_and]
    refine Sim.of_m (m := ((evalE cx.T Φ a Γ).bnd truth).bnd fun t => match t with
      | true => (evalE cx.T Φ b Γ).bnd truth
      | false => M.ret false) ?_ (hx.tru.bind fun b b' => ?_)
    · rw [bnd_assoc, bnd_assoc]
      congr 1; funext x1
      rw [bnd_assoc]
      congr 1; funext t
      cases t <;> rfl
    · intro H ρ s R p
      have e : b' = b := p.2
      subst e
      cases b' with
      | true => exact hy.2 H ρ s R p.1
      | false => exact wpAny_pure ⟨ρ, Full.refl _ _, R, rfl⟩
theorem eok_or {a b : ME} {x y : Expr} {rest : List Expr} {pos : Pos} (hx : EOk cx A P Φ env Γ a x) (hy : EOks cx A P Φ env Γ .Or pos b (y :: rest)) : EOk cx A P Φ env Γ (.or a b) (.BoolOp .Or (x :: y :: rest) pos) := by
  refine ⟨?_, ?_⟩
  · rw [arm_eval_BoolOp, ev_or]
    refine hx.val.bind (f := fun v => do
      standAt pos
      let t ← holding [v] (truthy v)
      match BoolOp.Or, t with
      | .And, false | .Or, true => pure v
      | _, _ => boolOp pos .Or (evalEach (y :: rest) env)) fun x1 v => Sim.stand ((Sim.holding sim_truthyV).bind fun b b' => ?_)
    intro H ρ s R p
    obtain ⟨e1, e2⟩ : b' = b ∧ v = .bool b := p.2
    subst e1 e2
    cases b' with
    | false => exact hy.1 H ρ s R p.1.1
    | true => exact wpAny_pure ⟨ρ, Full.refl _ _, R, .bool _⟩
  · rw [arm_isTrue_BoolOp, arm_allTrue_cons, ev_or]
    refine Sim.of_m (m := ((evalE cx.T Φ a Γ).bnd truth).bnd fun t => match t with
      | true => M.ret true
      | false => (evalE cx.T Φ b Γ).bnd truth) ?_ (hx.tru.bind fun b b' => ?_)
    · rw [bnd_assoc, bnd_assoc]
      congr 1; funext x1
      rw [bnd_assoc]
      congr 1; funext t
      cases t <;> rfl
    · intro H ρ s R p
      have e : b' = b := p.2
      subst e
      cases b' with
      | false => exact hy.2 H ρ s R p.1
      | true => exact wpAny_pure ⟨ρ, Full.refl _ _, R, rfl⟩

/-! ## comparisons -/
theorem notSet_marks {r : Expr} (h : notSet r = true) (op : CmpOp) : behindInMarks op r = false := by
  cases r <;> first | rfl | cases h
theorem eok_cmp (hu : A.units + 100 < cLine) {op : COp} {a b : ME} {l r : Expr} {pos : Pos} (hn : notSet r = true) (x : EOk cx A P Φ env Γ a l) (y : EOk cx A P Φ env Γ b r) : EOk cx A P Φ env Γ (.cmp op a b) (.Compare l [cmOp op] [r] pos) := by
  have V : ∀ (x1 y1 : Val) (v w : Value), Sim cx A ((P.and (Amb.vr cx x1 v)).and (Amb.vr cx y1 w)) (operate [v, w] (compareOp (cmOp op) v w)) ((M.look (cmpV op x1 y1)).bnd fun r => M.ret (Val.bool r)) (Amb.vr cx) :=
    fun x1 y1 v w => Sim.oper (sim_cmp hu (fun _ _ p => p.1.2) fun _ _ p => p.2)
  refine ⟨?_, ?_⟩
  · rw [eval_Compare1, markedBehindIn_of_false (notSet_marks hn _), ev_cmp]
    exact x.val.bind fun x1 v => (Sim.holding y.val.and1).bind fun y1 w => Sim.stand (V x1 y1 v w)
  · rw [isTrue_Compare1, markedBehindIn_of_false (notSet_marks hn _), ev_cmp]
    rw [bnd_assoc]
    refine x.val.bind fun x1 v => ?_
    rw [bnd_assoc]
    exact (Sim.holding y.val.and1).bind fun y1 w => Sim.stand ((V x1 y1 v w).bind fun r c => Sim.holding sim_truthyA)
theorem eok_cmp2 (hu : A.units + 100 < cLine) {op1 op2 : COp} {a b c : ME} {l m r : Expr} {pos : Pos} (hn : notSet r = true) (x : EOk cx A P Φ env Γ a l) (y : EOk cx A P Φ env Γ b m) (z : EOk cx A P Φ env Γ c r) : EOk cx A P Φ env Γ (.cmp2 op1 op2 a b c) (.Compare l [cmOp op1, cmOp op2] [m, r] pos) := by
  have V1 : ∀ (x1 y1 : Val) (v w : Value), Sim cx A ((P.and (Amb.vr cx x1 v)).and (Amb.vr cx y1 w)) (holding [v, w] (compareOp (cmOp op1) v w)) ((M.look (cmpV op1 x1 y1)).bnd fun r => M.ret (Val.bool r)) (Amb.vr cx) :=
    fun x1 y1 v w => Sim.holding (sim_cmp hu (fun _ _ p => p.1.2) fun _ _ p => p.2)
  have e0 : ∀ (x1 y1 : Val) (k : Bool → M Val), ((M.look (cmpV op1 x1 y1)).bnd k) = (((M.look (cmpV op1 x1 y1)).bnd fun r => M.ret (Val.bool r)).bnd fun v => (truth v).bnd k) := fun x1 y1 k => by
    rw [bnd_assoc]; rfl
  refine ⟨?_, ?_⟩
  · rw [arm_eval_Compare, ev_cmp2]
    have em : markedEach [cmOp op1, cmOp op2] [m, r] (evalEach [m, r] env) = [eval m env, eval r env] := by
      show [eval m env, markedBehindIn (cmOp op2) r (eval r env)] = _
      rw [markedBehindIn_of_false (notSet_marks hn _)]
    rw [em]
    refine x.val.bind (f := fun left => do
      let rv ← holding [left] (eval m env)
      standAt pos
      let c ← holding [left, rv] (compareOp (cmOp op1) left rv)
      release [left, rv] [c]
      if ← holding [c, rv] (truthy c) then compareChain pos rv [cmOp op2] [eval r env] else pure c) fun x1 v => ?_
    refine (Sim.holding y.val.and1).bind fun y1 w => Sim.stand ?_
    rw [e0]
    refine (V1 x1 y1 v w).bind fun r1 c1 => Sim.relse ?_
    refine (Sim.holding sim_truthyV).bind fun t t' => ?_
    intro H ρ s R p
    obtain ⟨e1, e2⟩ : t' = t ∧ c1 = .bool t := p.2
    subst e1 e2
    cases t' with
    | false => exact wpAny_pure ⟨ρ, Full.refl _ _, R, .bool _⟩
    | true =>
      have W : Sim cx A (P.and (Amb.vr cx y1 w)) (compareChain pos w [cmOp op2] [eval r env]) ((evalE cx.T Φ c Γ).bnd fun z => (M.look (cmpV op2 y1 z)).bnd fun r => M.ret (Val.bool r)) (Amb.vr cx) :=
        (Sim.holding z.val.and1).bind fun z1 u => Sim.stand (Sim.oper (sim_cmp hu (fun _ _ p => p.1.2) fun _ _ p => p.2))
      exact W H ρ s R ⟨p.1.1.1.1, p.1.1.2⟩
  · rw [arm_isTrue_Compare, ev_cmp2]
    have em : markedEach [cmOp op1, cmOp op2] [m, r] (evalEach [m, r] env) = [eval m env, eval r env] := by
      show [eval m env, markedBehindIn (cmOp op2) r (eval r env)] = _
      rw [markedBehindIn_of_false (notSet_marks hn _)]
    rw [em, bnd_assoc]
    refine x.val.bind (f := fun left => do
      let rv ← holding [left] (eval m env)
      standAt pos
      let c ← holding [left, rv] (compareOp (cmOp op1) left rv)
      release [left, rv] [c]
      if ← holding [c, rv] (truthy c) then testChain pos rv [cmOp op2] [eval r env] else pure false) fun x1 v => ?_
    rw [bnd_assoc]
    refine (Sim.holding y.val.and1).bind fun y1 w => Sim.stand ?_
    rw [e0, bnd_assoc]
    refine (V1 x1 y1 v w).bind fun r1 c1 => Sim.relse ?_
    rw [bnd_assoc]
    refine (Sim.holding sim_truthyV).bind fun t t' => ?_
    intro H ρ s R p
    obtain ⟨e1, e2⟩ : t' = t ∧ c1 = .bool t := p.2
    subst e1 e2
    cases t' with
    | false => exact wpAny_pure ⟨ρ, Full.refl _ _, R, rfl⟩
    | true =>
      have W : Sim cx A (P.and (Amb.vr cx y1 w)) (testChain pos w [cmOp op2] [eval r env]) (((evalE cx.T Φ c Γ).bnd fun z => (M.look (cmpV op2 y1 z)).bnd fun r => M.ret (Val.bool r)).bnd truth) BV := by
        rw [bnd_assoc]
        have V2 : ∀ (z1 : Val) (u : Value), Sim cx A ((P.and (Amb.vr cx y1 w)).and (Amb.vr cx z1 u)) (operate [w, u] (compareOp (cmOp op2) w u)) ((M.look (cmpV op2 y1 z1)).bnd fun r => M.ret (Val.bool r)) (Amb.vr cx) :=
          fun z1 u => Sim.oper (sim_cmp hu (fun _ _ p => p.1.2) fun _ _ p => p.2)
        exact (Sim.holding z.val.and1).bind fun z1 u => Sim.stand ((V2 z1 u).bind fun _ _ => Sim.holding sim_truthyA)
      exact W H ρ s R ⟨p.1.1.1.1, p.1.1.2⟩
end
end Mine

-- part MCall
namespace Mine
open PySem

theorem look_some {α : Type} {f : Hp → Option α} {H : Hp} {a : α} (h : f H = some a) : M.look f H = .ok a H := by unfold M.look; rw [h]
theorem look_none {α : Type} {f : Hp → Option α} {H : Hp} (h : f H = none) : M.look f H = .bad := by unfold M.look; rw [h]
theorem blt_mem (f : BF) (h : f ≠ .sortedSet) : ((bfName f).1, bfVal f) ∈ bltTab := by
  unfold bltTab
  cases f <;> first
    | exact absurd rfl h
    | repeat (first | exact List.Mem.head _ | apply List.Mem.tail)
theorem ty_mem (t : Ty) (h : ∀ c, t ≠ .cls c) : (tyName t, tyVal t) ∈ bltTab := by
  unfold bltTab
  cases t <;> first
    | exact absurd rfl (h _)
    | repeat (first | exact List.Mem.head _ | apply List.Mem.tail)
theorem isi_mem : (("isinstance" : Str), Value.builtin "isinstance") ∈ bltTab := by
  unfold bltTab
  repeat (first | exact List.Mem.head _ | apply List.Mem.tail)

section
variable {cx : Cx} {N : Names} {A : Around} {P : Amb} {env : Env} {sc : Scope} {ns : List (Option Str)} {Γ : Env'} {Φ : Funs} {l : List Env}

theorem len2 {α : Type} {xs : List α} (h : xs.length = 2) : ∃ a b, xs = [a, b] := by
  match xs, h with
  | [a, b], _ => exact ⟨a, b, rfl⟩
/- the built-in functions -/
theorem sim_bfcall (hh : A.handled = none) (hu : A.units + 100 < cLine) (f : BF) (hf : f ≠ .sortedSet) {ms : List Val} {vs : List Value} (hl : ms.length = (bfName f).2) : Sim cx A (Amb.vrs cx ms vs) (call (bfVal f) vs) (bfV f ms) (Amb.vr cx) := by
  have one : ∀ {t : Sem Value} {m : Val → M Val}, ms.length = 1 → (∀ (a : Val) (v : Value), ms = [a] → vs = [v] → Sim cx A (Amb.vr cx a v) t (bfV f ms) (Amb.vr cx)) → Sim cx A (Amb.vrs cx ms vs) t (bfV f ms) (Amb.vr cx) := by
    intro t m h1 k H ρ s R p
    have p' : VRs cx ρ s.heap ms vs := p
    have hv := p'.length
    obtain ⟨a, rfl⟩ := List.length_eq_one_iff.mp h1
    obtain ⟨v, rfl, x⟩ := p'.one_inv
    exact k a v rfl rfl H ρ s R x
  have two : ∀ {t : Sem Value} {m : Val → M Val}, ms.length = 2 → (∀ (a b : Val) (v w : Value), ms = [a, b] → vs = [v, w] → Sim cx A ((Amb.vr cx a v).and (Amb.vr cx b w)) t (bfV f ms) (Amb.vr cx)) → Sim cx A (Amb.vrs cx ms vs) t (bfV f ms) (Amb.vr cx) := by
    intro t m h1 k H ρ s R p
    have p' : VRs cx ρ s.heap ms vs := p
    have hv := p'.length
    obtain ⟨a, b, rfl⟩ := len2 h1
    obtain ⟨v, w, rfl, x, y⟩ := p'.two_inv
    exact k a b v w rfl rfl H ρ s R ⟨x, y⟩
  cases f with
  | len => exact one (m := fun _ => .bad) hl fun a v e1 e2 => by subst e1 e2; exact sim_len fun _ _ p => p
  | range => exact one (m := fun _ => .bad) hl fun a v e1 e2 => by subst e1 e2; exact sim_range fun _ _ p => p
  | list => exact one (m := fun _ => .bad) hl fun a v e1 e2 => by subst e1 e2; exact sim_listOf hh fun _ _ p => p
  | tuple => exact one (m := fun _ => .bad) hl fun a v e1 e2 => by subst e1 e2; exact sim_tupleOf fun _ _ p => p
  | abs => exact one (m := fun _ => .bad) hl fun a v e1 e2 => by subst e1 e2; exact sim_abs fun _ _ p => p
  | sortedSet => exact absurd rfl hf

theorem isT_call (f : Expr) (xs : List Expr) (ks : List Keyword) (pos : Pos) : isTrue (.Call f xs ks pos) env (eval (.Call f xs ks pos) env) = (do let v ← eval (.Call f xs ks pos) env; standAt (Expr.Call f xs ks pos).pos; holding [v] (truthy v)) := rfl

theorem eok_bf (B : Base cx N) (hh : A.handled = none) (hu : A.units + 100 < cLine) {f : BF} {x : Str} {xs : List Expr} {es : MEs} {np pos : Pos} (hg : isGlob sc x = true) (hx : (bfName f).1 = x) (hl : (bfName f).2 = xs.length) (hes : ckEs N sc ns es xs = true)
    (y : Sim cx A ((Amb.env cx env sc ns Γ).and (Amb.frames cx l)) (spliced (xs.map fun e => (false, eval e env))) (evalEs cx.T Φ es Γ) (Amb.vrs cx)) :
    EOk cx A ((Amb.env cx env sc ns Γ).and (Amb.frames cx l)) Φ env Γ (.bf f es) (.Call (.Name x np) xs [] pos) := by
  refine EOk.of ?_ rfl
  obtain ⟨mg, mb, ng, nb, _, _, _, q⟩ := B.ns
  intro H ρ s R p
  by_cases hf : f = .sortedSet
  · subst hf
    first | rw [ev_call] | rw [ev_new] | rw [ev_umeth] | rw [ev_bf] | rw [ev_isinst] | rw [ev_bm]
    show SimAt cx A (M.bnd _ (fun vs => bfV .sortedSet vs) H) _ _ ρ s
    have hx' : xs = [] := List.eq_nil_of_length_eq_zero hl.symm
    subst hx'
    obtain rfl := ckEs_nil hes
    trivial
  · have q12 : mg (bfName f).1 = none ∧ mb (bfName f).1 = some (bfVal f) := q _ (blt_mem f hf)
    obtain ⟨q1, q2⟩ := q12
    rw [hx] at q1 q2
    first | rw [ev_call] | rw [ev_new] | rw [ev_umeth] | rw [ev_bf] | rw [ev_isinst] | rw [ev_bm]
    refine SimK.mono (simK_args (f := bfVal f) (K := fun vs Q E s => wpAny (model cx.prog cx.w) A (call (bfVal f) vs) Q E s) (fun e => ckEs_nil (e ▸ hes)) R (y H ρ s R p) ?_ fun _ => monoK_wp _) ?_
    · intro ms vs H1 ρ1 s1 e1 F1 R1 vrs
      exact sim_bfcall hh hu f hf (by rw [evalEs_length hes e1, hl]) H1 ρ1 s1 R1 vrs
    · intro Q E h
      refine wpAny_Call_ofName (wp_glob R p.1.st hg ng nb (v := bfVal f) (.inr ⟨q1, q2⟩) ?_)
      rw [plainArgs_trees pos (ckEs_plain hes)]
      have hq : (∃ id, bfVal f = .builtin id) ∨ ∃ T, bfVal f = .type T := by
        cases f <;> first | exact absurd rfl hf | exact .inl ⟨_, rfl⟩ | exact .inr ⟨_, rfl⟩
      generalize bfVal f = bv at h hq ⊢
      rcases hq with ⟨id, rfl⟩ | ⟨T, rfl⟩
      · exact Calls.callWith_builtin (any_false _) (wpAny_mono h (fun a s₁ h₁ => by rw [h₁.1]; exact h₁.2) fun _ _ q => q)
      · exact PyProof.Rows.callWith_type (any_false _) (wpAny_mono h (fun a s₁ h₁ => by rw [h₁.1]; exact h₁.2) fun _ _ q => q)

/- isinstance with a built-in type -/
theorem eok_isi (B : Base cx N) {t : Ty} (ht : ∀ c, t ≠ .cls c) {a : ME} {f y : Str} {x : Expr} {fp yp pos : Pos} (hg : isGlob sc f = true) (hf : f = ("isinstance" : Str)) (hy : isGlob sc y = true) (hty : tyName t = y) (hp : notStar x = true)
    (z : EOk cx A ((Amb.env cx env sc ns Γ).and (Amb.frames cx l)) Φ env Γ a x) :
    EOk cx A ((Amb.env cx env sc ns Γ).and (Amb.frames cx l)) Φ env Γ (.isinst a t) (.Call (.Name f fp) [x, .Name y yp] [] pos) := by
  refine EOk.of ?_ rfl
  obtain ⟨mg, mb, ng, nb, _, _, _, q⟩ := B.ns
  intro H ρ s R p
  have q12 : mg ("isinstance" : Str) = none ∧ mb ("isinstance" : Str) = some (.builtin "isinstance") := q _ isi_mem
  have q34 : mg (tyName t) = none ∧ mb (tyName t) = some (tyVal t) := q _ (ty_mem t ht)
  obtain ⟨q1, q2⟩ := q12
  obtain ⟨q3, q4⟩ := q34
  rw [← hf] at q1 q2
  rw [hty] at q3 q4
  first | rw [ev_call] | rw [ev_new] | rw [ev_umeth] | rw [ev_bf] | rw [ev_isinst] | rw [ev_bm]
  refine SimAt.bindK (K' := fun Q E s => wpAny (model cx.prog cx.w) A (eval (.Call (.Name f fp) [x, .Name y yp] [] pos) env) Q E s) (K := fun v Q E s => wpAny (model cx.prog cx.w) A (eval (.Name y yp) env) (fun w s' => wpAny (model cx.prog cx.w) A (call (.builtin "isinstance") [v, w]) Q E s') E s) (z.val H ρ s R p) ?_ ?_ ?_
  · intro b v H1 ρ1 s1 _ F1 R1 vr
    have e1 := (p.1.full F1).st
    have ht2 : (isinstV cx.T b t) = M.look (fun H => (kdOf H b).map fun k => Val.bool (isKd t k)) := by
      cases t <;> first | rfl | exact absurd rfl (ht _)
    show SimK cx (isinstV cx.T b t H1) _ _ ρ1 s1
    rw [ht2]
    cases ek : kdOf H1 b with
    | none =>
      have : M.look (fun H => (kdOf H b).map fun k => Val.bool (isKd t k)) H1 = .bad := look_none (by show Option.map _ (kdOf H1 b) = none; rw [ek]; rfl)
      rw [this]; trivial
    | some k =>
      have : M.look (fun H => (kdOf H b).map fun k => Val.bool (isKd t k)) H1 = .ok (Val.bool (isKd t k)) H1 := look_some (by show Option.map _ (kdOf H1 b) = _; rw [ek]; rfl)
      rw [this]
      refine wp_glob R1 e1 hy ng nb (v := tyVal t) (.inr ⟨q3, q4⟩) ?_
      exact wp_isi R1 vr ek ht fun tk => ⟨ρ1, Full.refl _ _, R1.toks tk, .bool _⟩
  · exact fun v Q E Q' E' s h k1 k2 => wpAny_mono h (fun _ _ h' => wpAny_mono h' k1 k2) k2
  · intro Q E h
    refine wpAny_Call_ofName (wp_glob R p.1.st hg ng nb (v := .builtin "isinstance") (.inr ⟨q1, q2⟩) ?_)
    have pl : plainArgs env [x, .Name y yp] := ⟨starEach_plain hp, starEach_plain rfl, trivial⟩
    rw [plainArgs_trees pos pl]
    refine Calls.callWith_builtin (any_false _) (Calls.evalArgs_plain (Calls.spliced_cons (wpAny_mono h (fun v s' h' => ?_) fun _ _ q => q)))
    exact Calls.spliced_cons (wpAny_mono h' (fun w s'' h'' => Calls.spliced_nil h'') fun _ _ q => q)

theorem eok_sub (hu : A.units + 100 < cLine) {a i : ME} {v s : Expr} {pos : Pos} (x : EOk cx A P Φ env Γ a v) (y : EOk cx A P Φ env Γ i s) : EOk cx A P Φ env Γ (.sub a i) (.Subscript v s pos) := by
  refine EOk.of ?_ rfl
  intro H ρ st R p
  rw [ev_sub]
  refine SimAt.bindK (K' := fun Q E s' => wpAny (model cx.prog cx.w) A (eval (.Subscript v s pos) env) Q E s') (K := fun o Q E s' => wpAny (model cx.prog cx.w) A (eval s env) (fun i s'' => wpAny (model cx.prog cx.w) A (PyProof.Rows.subscriptTail v s o i) Q E s'') E s') (x.val H ρ st R p) ?_ ?_ ?_
  · intro b o H1 ρ1 s1 _ F1 R1 vr
    refine SimAt.bindK (K' := fun Q E s' => wpAny (model cx.prog cx.w) A (eval s env) (fun i s'' => wpAny (model cx.prog cx.w) A (PyProof.Rows.subscriptTail v s o i) Q E s'') E s') (K := fun i Q E s' => wpAny (model cx.prog cx.w) A (PyProof.Rows.subscriptTail v s o i) Q E s') (y.val H1 ρ1 s1 R1 (P.st _ _ _ _ p F1)) ?_ (fun _ => monoK_wp _) fun Q E h => h
    intro b2 i2 H2 ρ2 s2 _ F2 R2 vr2
    exact sim_subTail (P := (Amb.vr cx b o).and (Amb.vr cx b2 i2)) hu (fun _ _ p => p.1) (fun _ _ p => p.2) H2 ρ2 s2 R2 ⟨vr.step F2.step, vr2⟩
  · exact fun v Q E Q' E' s h k1 k2 => wpAny_mono h (fun _ _ h' => wpAny_mono h' k1 k2) k2
  · exact fun Q E h => PyProof.Rows.Subscript_ h
end
end Mine

-- part MIsi2
namespace Mine
open PySem
section
variable {cx : Cx} {N : Names} {A : Around} {Φ : Funs} {l : List Env} {env : Env} {sc : Scope} {ns : List (Option Str)} {Γ : Env'} {H : Hp} {ρ : Rho} {s : Shared}
/- isinstance of an exception against a class -/
theorem wp_isiX (B : Base cx N) (R : Rel cx H ρ s) {c dc : Nat} {v D : Value} (vr : VR cx ρ s.heap (.exc c) v) (hi : cx.T.isExc c = true) (hD : cx.cls[dc]? = some D) {Q : Value → Shared → Prop} {E : Value → Shared → Prop} (q : ∀ tk, Q (.bool (cx.T.sub c dc)) { s with toks := tk }) :
    wpAny (model cx.prog cx.w) A (call (.builtin "isinstance") [v, D]) Q E s := by
  obtain ⟨C, hC, ok⟩ := B.exc c hi
  obtain ⟨K, X, k, m⟩ := ok.isi
  obtain ⟨m1, m2⟩ := m dc D hD
  cases vr with
  | @exc a o _ C' g no hC' x =>
    rw [hC] at hC'; cases hC'
    obtain ⟨x1, ⟨vs, x2⟩, x3⟩ := x
    have XK : K.In s.heap := fun b ob e => R.base b ob (X b ob e)
    refine excK_call (K := K) (D := C) (ox := o) k XK ⟨g, x1, by unfold PySem.W.notCls; rw [x2], by rw [x3]; trivial⟩ (fun M h' X' => (clsVal_ty m1 X').1) (fun M h' X' => (clsVal_ty m1 X').2) (fun e => ?_) (fun M h' X' => PySem.W.looks_mroIn X' m2) q
    have e' := beq_iff_eq.mp e
    subst e'
    have := ok.is
    obtain ⟨nm, qn, Nn, bs, bm, hdct, sn, sub, ab, col, dd, k0, k1, k2, k3, k5, mN, hCo, hNs, hin, tl, hsub⟩ := ok.is
    rw [hsub dc _ hD, List.contains_cons, beq_self_eq_true, Bool.true_or]
theorem eok_isiC (B : Base cx N) {dc : Nat} {a : ME} {f y : Str} {x : Expr} {fp yp pos : Pos} (hg : isGlob sc f = true) (hf : f = ("isinstance" : Str)) (hy : isGlob sc y = true) (hc : hasNo N.clss y dc = true) (hp : notStar x = true)
    (z : EOk cx A ((Amb.env cx env sc ns Γ).and (Amb.frames cx l)) Φ env Γ a x) :
    EOk cx A ((Amb.env cx env sc ns Γ).and (Amb.frames cx l)) Φ env Γ (.isinst a (.cls dc)) (.Call (.Name f fp) [x, .Name y yp] [] pos) := by
  refine EOk.of ?_ rfl
  obtain ⟨mg, mb, ng, nb, _, _, qc, q⟩ := B.ns
  intro H ρ s R p
  have q12 : mg ("isinstance" : Str) = none ∧ mb ("isinstance" : Str) = some (.builtin "isinstance") := q _ isi_mem
  obtain ⟨q1, q2⟩ := q12
  rw [← hf] at q1 q2
  obtain ⟨D, hD, hx⟩ := qc y dc (hasNo_eq hc)
  rw [ev_isinst]
  refine SimAt.bindK (K' := fun Q E s => wpAny (model cx.prog cx.w) A (eval (.Call (.Name f fp) [x, .Name y yp] [] pos) env) Q E s) (K := fun v Q E s => wpAny (model cx.prog cx.w) A (eval (.Name y yp) env) (fun w s' => wpAny (model cx.prog cx.w) A (call (.builtin "isinstance") [v, w]) Q E s') E s) (z.val H ρ s R p) ?_ ?_ ?_
  · intro b v H1 ρ1 s1 _ F1 R1 vr
    have e1 := (p.1.full F1).st
    show SimK cx (isinstV cx.T b (.cls dc) H1) _ _ ρ1 s1
    cases b with
    | exc c =>
      by_cases hi : cx.T.isExc c = true
      · have : isinstV cx.T (.exc c) (.cls dc) H1 = .ok (.bool (cx.T.sub c dc)) H1 := look_some (by show (if cx.T.isExc c = true then some (Val.bool (cx.T.sub c dc)) else none) = _; rw [if_pos hi])
        rw [this]
        refine wp_glob R1 e1 hy ng nb hx ?_
        exact wp_isiX B R1 vr hi hD fun tk => ⟨ρ1, Full.refl _ _, R1.toks tk, .bool _⟩
      · have : isinstV cx.T (.exc c) (.cls dc) H1 = .bad := look_none (by show (if cx.T.isExc c = true then some (Val.bool (cx.T.sub c dc)) else none) = _; rw [if_neg hi])
        rw [this]; trivial
    | _ => trivial
  · exact fun v Q E Q' E' s h k1 k2 => wpAny_mono h (fun _ _ h' => wpAny_mono h' k1 k2) k2
  · intro Q E h
    refine wpAny_Call_ofName (wp_glob R p.1.st hg ng nb (v := .builtin "isinstance") (.inr ⟨q1, q2⟩) ?_)
    have pl : plainArgs env [x, .Name y yp] := ⟨starEach_plain hp, starEach_plain rfl, trivial⟩
    rw [plainArgs_trees pos pl]
    refine Calls.callWith_builtin (any_false _) (Calls.evalArgs_plain (Calls.spliced_cons (wpAny_mono h (fun v s' h' => ?_) fun _ _ q => q)))
    exact Calls.spliced_cons (wpAny_mono h' (fun w s'' h'' => Calls.spliced_nil h'') fun _ _ q => q)
end
end Mine

-- part MComp
namespace Mine
open PySem

/-! ## the closure -/
noncomputable def cloOf (env : Env) : List (Str × NameKind) → List (Str × Addr) → List (Str × Addr)
  | [], acc => acc
  | (n, k) :: r, acc => if k == .free then cloOf env r ((n, (env.cells.lookup n).getD 0) :: acc) else cloOf env r acc
theorem closureFor_eq {scope : Scope} {env : Env} (h : ∀ p ∈ scope.names, p.2 = .free → ∃ c, env.cells.lookup p.1 = some c) : closureFor scope env = pure (cloOf env scope.names []) := by
  have gen : ∀ (names : List (Str × NameKind)) (acc : List (Str × Addr)), (∀ p ∈ names, p.2 = .free → ∃ c, env.cells.lookup p.1 = some c) →
      (forIn names acc fun x cs => if (x.2 == .free) = true then (do let c ← cellOf env x.1; pure (ForInStep.yield ((x.1, c) :: cs))) else pure (ForInStep.yield cs) : Sem _) = pure (cloOf env names acc) := by
    intro names
    induction names with
    | nil => intro acc _; rfl
    | cons p r ih =>
      intro acc hp
      obtain ⟨n, k⟩ := p
      rw [List.forIn_cons]
      unfold cloOf
      by_cases q : (k == .free) = true
      · obtain ⟨c, hc⟩ := hp (n, k) (.head _) (by simpa using q)
        have hc' : env.cells.lookup n = some c := hc
        have e : cellOf env n = pure c := by unfold cellOf; rw [hc']
        simp only [q, if_true, e, pure_bind, hc', Option.getD_some]
        exact ih _ fun p hp' => hp p (.tail _ hp')
      · simp only [q, if_false, pure_bind]
        exact ih _ fun p hp' => hp p (.tail _ hp')
  unfold closureFor
  have := gen scope.names [] h
  simp only [bind_pure] at this ⊢
  rw [← this]
set_option tactic.hygienic true in
theorem clo_val {env : Env} : ∀ {names : List (Str × NameKind)} {acc : List (Str × Addr)} {y : Str} {c : Addr}, (∀ z d, acc.lookup z = some d → d = (env.cells.lookup z).getD 0) → (cloOf env names acc).lookup y = some c → c = (env.cells.lookup y).getD 0
  | [], acc, y, c, ha, h => ha y c h
  | (n, k) :: r, acc, y, c, ha, h => by
    unfold cloOf at h
    split at h
    · refine clo_val (fun z d hd => ?_) h
      rw [List.lookup_cons] at hd
      split at hd
      · rename_i e
        have : z = n := by simpa using e
        subst this
        cases hd; rfl
      · exact ha z d hd
    · exact clo_val ha h
set_option tactic.hygienic true in
theorem clo_has {env : Env} : ∀ {names : List (Str × NameKind)} {acc : List (Str × Addr)} {y : Str}, ((y, NameKind.free) ∈ names ∨ (acc.lookup y).isSome = true) → ((cloOf env names acc).lookup y).isSome = true
  | [], _, _, h => by
    rcases h with h | h
    · cases h
    · exact h
  | (n, k) :: r, acc, y, h => by
    unfold cloOf
    split
    · rename_i hk
      refine clo_has ?_
      rcases h with h | h
      · rcases List.mem_cons.mp h with e | h
        · cases e; right; simp
        · exact .inl h
      · right
        rw [List.lookup_cons]
        split
        · rfl
        · exact h
    · rename_i hk
      refine clo_has ?_
      rcases h with h | h
      · rcases List.mem_cons.mp h with e | h
        · cases e; simp at hk
        · exact .inl h
      · exact .inr h
set_option tactic.hygienic true in
theorem clo_mem {env : Env} : ∀ {names : List (Str × NameKind)} {acc : List (Str × Addr)} {y : Str} {c : Addr}, (cloOf env names acc).lookup y = some c → (y, NameKind.free) ∈ names ∨ (acc.lookup y).isSome = true
  | [], _, _, _, h => by right; have h' : List.lookup _ _ = _ := h; unfold cloOf at h'; rw [h']; rfl
  | (n, k) :: r, acc, y, c, h => by
    unfold cloOf at h
    split at h
    · rename_i hk
      rcases clo_mem h with h | h
      · exact .inl (.tail _ h)
      · rw [List.lookup_cons] at h
        split at h
        · rename_i e
          have : y = n := by simpa using e
          subst this
          have : k = .free := by simpa using hk
          subst this
          exact .inl (.head _)
        · exact .inr h
    · rcases clo_mem h with h | h
      · exact .inl (.tail _ h)
      · exact .inr h
theorem cellsFrom_append : ∀ (names : List (Str × NameKind)) (n : Nat) (acc : List (Str × Addr)), cellsFrom n names acc = cellsFrom n names [] ++ acc
  | [], _, _ => rfl
  | (y, k) :: r, n, acc => by
    unfold cellsFrom
    split
    · rw [cellsFrom_append r (n + 1) ((y, n) :: acc), cellsFrom_append r (n + 1) [(y, n)], List.append_assoc]; rfl
    · exact cellsFrom_append r n acc
set_option tactic.hygienic true in
theorem cellsFrom_mem : ∀ {names : List (Str × NameKind)} {n : Nat} {acc : List (Str × Addr)} {y : Str} {c : Addr}, (y, c) ∈ cellsFrom n names acc → (y, NameKind.cell) ∈ names ∨ (y, c) ∈ acc
  | [], _, _, _, _, h => .inr h
  | (z, k) :: r, n, acc, y, c, h => by
    unfold cellsFrom at h
    split at h
    · rename_i hk
      rcases cellsFrom_mem h with h | h
      · exact .inl (.tail _ h)
      · rcases List.mem_cons.mp h with e | h
        · cases e
          have : k = .cell := by simpa using hk
          subst this
          exact .inl (.head _)
        · exact .inr h
    · rcases cellsFrom_mem h with h | h
      · exact .inl (.tail _ h)
      · exact .inr h
theorem relabel_lookup {env : Env} : ∀ (names : List (Str × NameKind)) (y : Str), (names.map fun (n, k) => if (k == NameKind.free && env.scope.kind == .function && env.kindOf n == some .cell) then (n, NameKind.cell) else (n, k)).lookup y =
    (names.lookup y).map fun k => if (k == NameKind.free && env.scope.kind == .function && env.kindOf y == some .cell) = true then NameKind.cell else k
  | [], _ => rfl
  | (n, k) :: r, y => by
    have ih := @relabel_lookup env r y
    show List.lookup y ((if (k == NameKind.free && env.scope.kind == .function && env.kindOf n == some .cell) = true then (n, NameKind.cell) else (n, k)) :: _) = _
    cases hx : y == n with
    | true =>
      have : y = n := by simpa using hx
      subst this
      by_cases hc : (k == NameKind.free && env.scope.kind == .function && env.kindOf y == some .cell) = true
      · rw [if_pos hc]
        simp only [List.lookup_cons, beq_self_eq_true, Option.map_some]
        rw [if_pos hc]
      · rw [if_neg hc]
        simp only [List.lookup_cons, beq_self_eq_true, Option.map_some]
        rw [if_neg hc]
    | false =>
      by_cases hc : (k == NameKind.free && env.scope.kind == .function && env.kindOf n == some .cell) = true
      · rw [if_pos hc]; simp only [List.lookup_cons, hx]; exact ih
      · rw [if_neg hc]; simp only [List.lookup_cons, hx]; exact ih

/- the comprehension's own frame -/
noncomputable def compEnv (csc : Scope) (env : Env) (L : Addr) : Env :=
  { scope := relabel csc env, locals := L, globals := env.globals, cells := cellsFrom (L + 1) csc.names (cloOf env csc.names []), qual := env.qual, func := none, code := env.code, frame := env.frame, builtins := env.builtins }
noncomputable def compHeap (csc : Scope) (h : Heap) : Heap := pushCells (h.push { cls := .type "dict", data := .dict #[] }) csc.names

theorem wpAny_newCompEnv {M : Model} {A : Around} {E : Value → Shared → Prop} {s : Shared} {env : Env} {csc : Scope} {Q : Env → Shared → Prop} (cl : List (Str × Addr))
    (h : Q (newEnv csc s.heap.objs.size env.globals (cellsFrom (s.heap.objs.size + 1) csc.names cl) env.qual none .none (some env) builtinsNs) { s with heap := compHeap csc s.heap }) :
    wpAny M A (newFunctionEnv csc env.globals cl [] env.qual none .none (some env)) Q E s := by
  simp only [newFunctionEnv, Option.isSome_some, if_true]
  refine wpAny_bind (wpAny_alloc ?_)
  refine wpAny_bind (wpAny_layCells _ (fun name kind cells => by cases hkc : kind == NameKind.cell <;> simp [hkc]) _ _ _ _ ?_)
  rw [show ({ s with heap := s.heap.push { cls := .type "dict", data := .dict #[] } } : Shared).heap.objs.size = s.heap.objs.size + 1 from Heap.size_push ..]
  exact wpAny_bind (wpAny_pure (wpAny_pure h))

section
variable {cx : Cx} {N : Names} {A : Around} {env : Env} {sc csc : Scope} {ns : List (Option Str)} {Γ : Env'} {H : Hp} {ρ : Rho} {s : Shared} {x : Str}

set_option tactic.hygienic true in
theorem compOk_parts (h : compOk sc csc x = true) : csc.kind = .function ∧ (csc.names.lookup x = some .local ∨ csc.names.lookup x = some .cell) ∧
    (∀ p ∈ csc.names, csc.names.lookup p.1 = some p.2 ∧ (p.2 = .free → sc.names.lookup p.1 = some .cell ∨ sc.names.lookup p.1 = some .free)) := by
  unfold compOk at h
  simp only [Bool.and_eq_true] at h
  obtain ⟨⟨h1, h2⟩, h3⟩ := h
  refine ⟨?_, ?_, fun p hp => ?_⟩
  · split at h1
    · assumption
    · cases h1
  · split at h2
    · left; assumption
    · right; assumption
    · cases h2
  · have h4 := List.all_eq_true.mp h3 p hp
    obtain ⟨y, k⟩ := p
    cases k <;> simp only at h4
    case «local» =>
      split at h4
      · rename_i e; exact ⟨e, fun q => nomatch q⟩
      · cases h4
    case cell =>
      split at h4
      · rename_i e; exact ⟨e, fun q => nomatch q⟩
      · cases h4
    case free =>
      rw [Bool.and_eq_true] at h4
      obtain ⟨h4, h5⟩ := h4
      refine ⟨?_, fun _ => ?_⟩
      · split at h4
        · assumption
        · cases h4
      · split at h5
        · left; assumption
        · right; assumption
        · cases h5
    case globalImplicit =>
      split at h4
      · rename_i e; exact ⟨e, fun q => nomatch q⟩
      · cases h4
    all_goals cases h4

theorem compHeap_keep (csc : Scope) (h : Heap) : ∀ b o, h.get? b = some o → (compHeap csc h).get? b = some o := fun b o e => pushCells_keeps _ _ b o (Heap.get?_push_of_some _ e)

set_option tactic.hygienic true in
theorem comp_env (R : Rel cx H ρ s) (e0 : EnvOk cx env sc ns Γ ρ s.heap) (hc : compOk sc csc x = true) (hΓ : Γ.length = ns.length) :
    EnvOk cx (compEnv csc env s.heap.objs.size) csc (inner csc ns ++ [some x]) (Γ ++ [none]) ρ (compHeap csc s.heap) ∧
    (∀ q, csc.names.lookup x = some .cell → (compEnv csc env s.heap.objs.size).cells.lookup x = some q → s.heap.get? q = none) := by
  obtain ⟨c1, c2, c3⟩ := compOk_parts hc
  have F : Full ρ s.heap ρ (compHeap csc s.heap) := Full.more (compHeap_keep csc s.heap)
  have lvB : Live cx.h₀ s.heap := fun b o e => ⟨o, R.base b o e⟩
  have ok := cellsFrom_ok csc.names (s.heap.push { cls := .type "dict", data := .dict #[] }) (s.heap.objs.size + 1) [] ⟨fun _ _ hm => (nomatch hm), List.Pairwise.nil⟩ (by rw [Heap.size_push]; exact Nat.le_refl _)
  rw [Heap.size_push] at ok
  have hcells : (compEnv csc env s.heap.objs.size).cells = cellsFrom (s.heap.objs.size + 1) csc.names [] ++ cloOf env csc.names [] := cellsFrom_append _ _ _
  have hlook : ∀ y c, (compEnv csc env s.heap.objs.size).cells.lookup y = some c →
      ((cellsFrom (s.heap.objs.size + 1) csc.names []).lookup y = some c ∧ (compHeap csc s.heap).IsCell c none ∧ s.heap.get? c = none ∧ csc.names.lookup y = some .cell) ∨
      (env.cells.lookup y = some c ∧ csc.names.lookup y = some .free) := by
    intro y c h
    rw [hcells, List.lookup_append] at h
    cases q : (cellsFrom (s.heap.objs.size + 1) csc.names []).lookup y with
    | some d =>
      rw [q] at h
      cases h
      have m := ok.empty y c (mem_of_lookup q)
      refine .inl ⟨rfl, m.1, fresh_le (Nat.le_of_succ_le m.2), ?_⟩
      rcases cellsFrom_mem (mem_of_lookup q) with w | w
      · exact (c3 _ w).1
      · cases w
    | none =>
      rw [q] at h
      have h' : (cloOf env csc.names []).lookup y = some c := h
      have m := clo_mem h'
      have mf : (y, NameKind.free) ∈ csc.names := by
        rcases m with m | m
        · exact m
        · cases m
      obtain ⟨l1, l2⟩ := c3 _ mf
      obtain ⟨d, hd⟩ := e0.st.hasCell y (l2 rfl)
      have v := clo_val (acc := []) (fun z d h => by simp at h) h'
      rw [hd] at v
      exact .inr ⟨by rw [hd, v]; rfl, l1⟩
  have hfree : ∀ y, csc.names.lookup y = some .free → ∃ c, (compEnv csc env s.heap.objs.size).cells.lookup y = some c ∧ env.cells.lookup y = some c := by
    intro y hy
    have := clo_has (env := env) (acc := []) (.inl (mem_of_lookup hy))
    obtain ⟨c, h⟩ := Option.isSome_iff_exists.mp this
    have hn : (cellsFrom (s.heap.objs.size + 1) csc.names []).lookup y = none := by
      cases q : (cellsFrom (s.heap.objs.size + 1) csc.names []).lookup y with
      | none => rfl
      | some d =>
        rcases cellsFrom_mem (mem_of_lookup q) with w | w
        · have := (c3 _ w).1; rw [hy] at this; cases this
        · cases w
    have hl : (compEnv csc env s.heap.objs.size).cells.lookup y = some c := by rw [hcells, List.lookup_append, hn]; exact h
    refine ⟨c, hl, ?_⟩
    rcases hlook y c hl with ⟨_, _, _, w⟩ | ⟨w, _⟩
    · rw [hy] at w; cases w
    · exact w
  have hkind : ∀ y, (compEnv csc env s.heap.objs.size).kindOf y = (csc.names.lookup y).map fun k => if (k == NameKind.free && env.scope.kind == .function && env.kindOf y == some .cell) = true then NameKind.cell else k := fun y => relabel_lookup csc.names y
  have locNs : (compHeap csc s.heap).Ns s.heap.objs.size fun _ => none := (Heap.Ns.new s.heap (.type "dict")).keeps (pushCells_keeps _ _)
  refine ⟨⟨⟨c1, e0.st.glob, e0.st.blt, fun y k hy => ?_, ⟨_, locNs⟩, R.fresh_not (fresh_none _), lvB.none (fresh_none _), fun y c hy => ?_, fun y hy => ?_, fun y z c hy hz => ?_⟩, by unfold inner; rw [List.length_append, List.length_append, List.length_map, hΓ]; rfl, fun i y mv hi hm => ?_⟩, fun q hx hq => ?_⟩
  · rw [hkind, hy]
    cases k
    case free =>
      simp only [Option.map_some, KindOk]
      split
      · exact .inr rfl
      · exact .inl rfl
    all_goals first | rfl | trivial
  · rcases hlook y c hy with ⟨_, w1, w2, _⟩ | ⟨w, _⟩
    · exact ⟨⟨_, w1⟩, R.fresh_not w2, lvB.none w2⟩
    · obtain ⟨⟨v, hv⟩, n, b⟩ := e0.st.cells y c w
      exact ⟨⟨v, IsCell_keep hv (F.data n)⟩, n, b⟩
  · rcases hy with hy | hy
    · rw [hcells, List.lookup_append]
      obtain ⟨c, h⟩ := Option.isSome_iff_exists.mp (cells_has (n := s.heap.objs.size + 1) (acc := []) (.inl (mem_of_lookup hy)))
      exact ⟨c, by rw [h]; rfl⟩
    · obtain ⟨c, h, _⟩ := hfree y hy
      exact ⟨c, h⟩
  · rcases hlook y c hy with ⟨w0, w1, w2, _⟩ | ⟨w, _⟩ <;> rcases hlook z c hz with ⟨u0, u1, u2, _⟩ | ⟨u, _⟩
    · exact name_of_addr ok.apart (mem_of_lookup w0) (mem_of_lookup u0)
    · obtain ⟨⟨v, o, ho, _⟩, _⟩ := e0.st.cells z c u
      rw [w2] at ho; cases ho
    · obtain ⟨⟨v, o, ho, _⟩, _⟩ := e0.st.cells y c w
      rw [u2] at ho; cases ho
    · exact e0.st.apart y z c w u
  · by_cases lt : i < ns.length
    · rw [List.getElem?_append_left (by unfold inner; rw [List.length_map]; exact lt)] at hi
      rw [List.getElem?_append_left (by rw [hΓ]; exact lt)] at hm
      unfold inner at hi
      rw [List.getElem?_map] at hi
      cases hn : ns[i]? with
      | none => rw [hn] at hi; cases hi
      | some oy =>
        rw [hn] at hi
        cases oy with
        | none => cases hi
        | some y' =>
          simp only [Option.map_some, Option.some.injEq] at hi
          split at hi
          · rename_i hf
            cases hi
            obtain ⟨v, hv, vr⟩ := e0.vals i y mv hn hm
            obtain ⟨c, k1, k2⟩ := hfree y hf
            have ks : env.kindOf y = some .cell ∨ env.kindOf y = some .free := by
              rcases (c3 _ (mem_of_lookup hf)).2 rfl with w | w
              · exact .inl (e0.st.kinds y _ w)
              · rcases e0.st.kinds y _ w with w | w
                · exact .inr w
                · exact .inl w
            have hcell : s.heap.IsCell c (some v) := by
              rcases hv with ⟨kd, _⟩ | ⟨_, c', hc', hv⟩
              · rcases ks with w | w <;> rw [w] at kd <;> cases kd
              · rw [k2] at hc'; cases hc'; exact hv
            refine ⟨v, .inr ⟨?_, c, k1, hcell.keeps (compHeap_keep csc s.heap)⟩, vr.step F.step⟩
            rw [hkind, hf]
            simp only [Option.map_some]
            split
            · exact .inl rfl
            · exact .inr rfl
          · cases hi
    · exfalso
      rw [List.getElem?_append_right (by rw [hΓ]; omega)] at hm
      cases q : i - Γ.length with
      | zero => rw [q] at hm; simp at hm
      | succ n => rw [q] at hm; simp at hm
  · rcases hlook x q hq with ⟨_, _, w, _⟩ | ⟨_, w⟩
    · exact w
    · rw [hx] at w; cases w
end
end Mine

-- part MLoop
namespace Mine
open PySem

section
variable {cx : Cx} {N : Names} {A : Around} {env : Env} {sc : Scope} {ns : List (Option Str)} {Γ : Env'} {H : Hp} {ρ ρ' : Rho} {s : Shared}

/- an object that is new since h is turned -/
theorem Full.fresh {h h1 h2 : Heap} {q : Addr} (F : Full ρ h ρ' h1) (hq : h.get? q = none) (hs : ∀ b o, b ≠ q → h1.get? b = some o → h2.get? b = some o) : Full ρ h ρ' h2 := by
  have ne : ∀ b o, h.get? b = some o → b ≠ q := fun b o e w => by rw [w, hq] at e; cases e
  refine ⟨F.grow, fun b o e n => ?_, fun b o e => ?_⟩
  · obtain ⟨o', e', u⟩ := F.keep b o e n
    exact ⟨o', hs b o' (ne b o e) e', u⟩
  · obtain ⟨o', e'⟩ := F.live b o e
    exact ⟨o', hs b o' (ne b o e) e'⟩
theorem Full.addOwn {h h1 : Heap} {p : Addr × Addr} (F : Full ρ h ρ' h1) (hp : h.get? p.1 = none ∧ h.get? p.2 = none) : Full ρ h (ρ' ++ [p]) h1 := by
  obtain ⟨e, rfl, he⟩ := F.grow
  refine ⟨⟨e ++ [p], by rw [List.append_assoc], fun q hq => ?_⟩, F.keep, F.live⟩
  rcases List.mem_append.mp hq with hq | hq
  · exact he q hq
  · rw [List.mem_singleton.mp hq]; exact hp

/- an object that is no part of the frame is turned -/
theorem EnvOk.but {h h' : Heap} {q : Addr} (x : EnvOk cx env sc ns Γ ρ h) (hs : ∀ b o, b ≠ q → h.get? b = some o → h'.get? b = some o) (n1 : q ≠ env.locals) (n2 : ∀ y, env.cells.lookup y ≠ some q) (st : Step ρ h ρ h') : EnvOk cx env sc ns Γ ρ h' := by
  have kl : ∀ o, h.get? env.locals = some o → ∃ o', h'.get? env.locals = some o' ∧ o'.data = o.data := fun o e => ⟨o, hs _ o (fun w => n1 w.symm) e, rfl⟩
  have kc : ∀ y c, env.cells.lookup y = some c → ∀ o, h.get? c = some o → ∃ o', h'.get? c = some o' ∧ o'.data = o.data := fun y c hc o e => ⟨o, hs _ o (fun w => n2 y (w ▸ hc)) e, rfl⟩
  obtain ⟨m, hm⟩ := x.st.loc
  refine ⟨⟨x.st.fn, x.st.glob, x.st.blt, x.st.kinds, ⟨m, Heap_Ns_keep hm kl⟩, x.st.locN, x.st.locB, fun y c hc => ?_, x.st.hasCell, x.st.apart⟩, x.len, fun i y mv hi hm => ?_⟩
  · obtain ⟨⟨v, hv⟩, a, b⟩ := x.st.cells y c hc
    exact ⟨⟨v, IsCell_keep hv (kc y c hc)⟩, a, b⟩
  · obtain ⟨v, hv, r⟩ := x.vals i y mv hi hm
    refine ⟨v, ?_, r.step st⟩
    rcases hv with ⟨k, m, hm, e⟩ | ⟨k, c, hc, e⟩
    · exact .inl ⟨k, m, Heap_Ns_keep hm kl, e⟩
    · exact .inr ⟨k, c, hc, IsCell_keep e (kc y c hc)⟩

theorem Rel.adopt (R : Rel cx H ρ s) {D : Addr} {vs : List Value} {n : Nat} {xs : List Val} (e : s.heap.get? D = some (listO vs n)) (r : VRs cx ρ s.heap xs vs) (z : xs.length ≤ sizeLine) (no : ¬ Owned ρ D) (nb : cx.h₀.get? D = none) :
    Rel cx (H ++ [.list xs]) (ρ ++ [(D, D)]) s ∧ VR cx (ρ ++ [(D, D)]) s.heap (.loc H.length) (.ref D) := by
  have notF : ¬ Fixed (listO vs n) := listO_not.1
  have notC : ∀ C, ¬ IsExcO (listO vs n) C := listO_not.2
  have own : ∀ b, ¬ Owned ρ b → b ≠ D → ¬ Owned (ρ ++ [(D, D)]) b := fun b nb ne ⟨p, hp, h⟩ => by
    rcases List.mem_append.mp hp with hp | hp
    · exact nb ⟨p, hp, h⟩
    · rw [List.mem_singleton.mp hp] at h
      rcases h with h | h <;> exact ne h
  have st : Step ρ s.heap (ρ ++ [(D, D)]) s.heap := ⟨⟨_, rfl⟩, fun b o eb f nb => ⟨eb, own b nb fun w => by rw [w, e] at eb; cases eb; exact notF f⟩, fun b o C eb c nb => ⟨o, eb, c, own b nb fun w => by rw [w, e] at eb; cases eb; exact notC C c⟩⟩
  have nD : ∀ p ∈ ρ, p.1 ≠ D ∧ p.2 ≠ D := fun p hp => ⟨fun w => no ⟨p, hp, .inl w.symm⟩, fun w => no ⟨p, hp, .inr w.symm⟩⟩
  have at' : ∀ {i : Nat} {q : Addr × Addr}, (ρ ++ [(D, D)])[i]? = some q → ρ[i]? = some q ∨ (i = ρ.length ∧ q = (D, D)) := by
    intro i q h
    by_cases lt : i < ρ.length
    · rw [List.getElem?_append_left lt] at h; exact .inl h
    · have hl' := (List.getElem?_eq_some_iff.mp h).1
      have le : i = ρ.length := by rw [List.length_append] at hl'; simp at hl'; omega
      subst le
      rw [List.getElem?_append_right (Nat.le_refl _)] at h
      simp at h
      exact .inr ⟨rfl, h.symm⟩
  refine ⟨⟨by rw [List.length_append, List.length_append, R.len]; rfl, fun l ob q hl hq => ?_, fun i j q r hij hi hj => ?_, fun q hq => ?_, R.base, R.sys, R.rest⟩, ?_⟩
  · rcases at' hq with hq | ⟨rfl, rfl⟩
    · have lt : l < H.length := by rw [R.len]; exact (List.getElem?_eq_some_iff.mp hq).1
      rw [List.getElem?_append_left lt] at hl
      exact (R.objs l ob q hl hq).step st fun b ob _ e => e
    · rw [← R.len, List.getElem?_append_right (Nat.le_refl _)] at hl
      simp at hl
      subst hl
      exact .list e (r.step st) z
  · rcases at' hi with hi' | ⟨hi', eq⟩ <;> rcases at' hj with hj' | ⟨hj', er⟩
    · exact R.apart i j q r hij hi' hj'
    · have q := nD _ (List.mem_of_getElem? hi'); rw [er]; exact ⟨⟨q.1, q.1⟩, q.2, q.2⟩
    · have q := nD _ (List.mem_of_getElem? hj'); rw [eq]; exact ⟨⟨q.1.symm, q.2.symm⟩, q.1.symm, q.2.symm⟩
    · exact absurd (hi'.trans hj'.symm) hij
  · rcases List.mem_append.mp hq with hq | hq
    · exact R.new q hq
    · rw [List.mem_singleton.mp hq]; exact ⟨nb, nb⟩
  · rw [R.len]
    exact VR.loc (p := (D, D)) (by rw [List.getElem?_append_right (Nat.le_refl _)]; simp)

/-! ## the loop of a comprehension -/
structure CInv (cx : Cx) (ρ₁ : Rho) (h₁ : Heap) (D I : Addr) (cenv : Env) (csc : Scope) (ns' : List (Option Str)) (Γ : Env') (xs : List Val) (src : Option Nat) (i : Nat) (done : List Val) (H : Hp) (ρ : Rho) (s : Shared) : Prop where
  full : Full ρ₁ h₁ ρ s.heap
  rel : Rel cx H ρ s
  env : ∃ o, EnvOk cx cenv csc ns' (Γ ++ [o]) ρ s.heap
  it : ItOk cx xs I i ρ s.heap src
  acc : ∃ vs n, s.heap.get? D = some (listO vs n) ∧ VRs cx ρ s.heap done vs
  nD : ¬ Owned ρ D
  nI : ¬ Owned ρ I

variable {Φ : Funs} {l : List Env} {csc : Scope} {x : Str} {cond : MEo} {elt : ME} {ifs : List Expr} {e : Expr}

noncomputable def stepOf (T : Tab) (Φ : Funs) (cond : MEo) (elt : ME) (Γ : Env') (x : Val) : M (Option Val) := (evalC T Φ cond (Γ ++ [some x])).bnd fun b => match b with
  | true => (evalE T Φ elt (Γ ++ [some x])).bnd fun y => .ret (some y)
  | false => .ret none

theorem append_at {D : Addr} {vs : List Value} {n : Nat} {v : Value} {Q : Value → Shared → Prop} {E : Value → Shared → Prop} (g : s.heap.get? D = some (listO vs n)) (z : vs.length ≤ sizeLine)
    (k : ∀ h' n', h'.get? D = some (listO (vs ++ [v]) n') → Heap.SameBut D s.heap h' → Q .none { s with heap := h' }) : wpAny (model cx.prog cx.w) A (call (.builtin "list.append") [.ref D, v]) Q E s := by
  refine call_meets F.slot_list_append ⟨_, g, rfl⟩ F.entry_list_append (F.args_list_append_2 _ _) (list_append D vs.toArray n v (by simpa using z)) ⟨g, ?_⟩
  obtain ⟨n', e⟩ := mapSeq_list vs n (fun x => x.push v)
  refine k _ n' ?_ (Heap.SameBut.update ..)
  rw [Heap.get?_update_self _ g (by rw [e]; rfl), e]
  simp

theorem compL_nil {c : Hp → Bool} {f : Val → M (Option Val)} {H H' : Hp} {r : List Val} (h : compL c f [] H = .ok r H') : c H = true ∧ r = [] ∧ H = H' := by
  have h : (if c H = true then Res.ok [] H else .bad) = Res.ok r H' := h
  by_cases q : c H = true
  · rw [if_pos q] at h; cases h; exact ⟨q, rfl, rfl⟩
  · rw [if_neg q] at h; cases h
theorem compL_cons {c : Hp → Bool} {f : Val → M (Option Val)} {m : Val} {xs : List Val} {H H' : Hp} {rest : List Val} (h : compL c f (m :: xs) H = .ok rest H') :
    c H = true ∧ ∃ r H3, f m H = .ok r H3 ∧ ∃ rest', compL c f xs H3 = .ok rest' H' ∧ rest = (match r with | some y => y :: rest' | none => rest') := by
  unfold compL at h
  by_cases q : c H = true
  · rw [if_pos q] at h
    refine ⟨q, ?_⟩
    cases e1 : f m H with
    | bad => rw [bnd_bad e1] at h; cases h
    | exc c H3 => rw [bnd_exc e1] at h; cases h
    | ok r H3 =>
      rw [bnd_ok e1] at h
      cases e2 : compL c f xs H3 with
      | bad => rw [bnd_bad e2] at h; cases h
      | exc c H4 => rw [bnd_exc e2] at h; cases h
      | ok rest' H4 =>
        rw [bnd_ok e2] at h
        cases h
        exact ⟨r, H3, rfl, rest', e2, rfl⟩
  · rw [if_neg q] at h; cases h
theorem stepOf_ok {T : Tab} {m : Val} {r : Option Val} {H H3 : Hp} (h : stepOf T Φ cond elt Γ m H = .ok r H3) :
    ∃ b H4, evalC T Φ cond (Γ ++ [some m]) H = .ok b H4 ∧ ((b = false ∧ r = none ∧ H4 = H3) ∨ (b = true ∧ ∃ y, evalE T Φ elt (Γ ++ [some m]) H4 = .ok y H3 ∧ r = some y)) := by
  unfold stepOf at h
  cases e3 : evalC T Φ cond (Γ ++ [some m]) H with
  | bad => rw [bnd_bad e3] at h; cases h
  | exc c H4 => rw [bnd_exc e3] at h; cases h
  | ok b H4 =>
    rw [bnd_ok e3] at h
    refine ⟨b, H4, rfl, ?_⟩
    cases b with
    | false => cases h; exact .inl ⟨rfl, rfl, rfl⟩
    | true =>
      refine .inr ⟨rfl, ?_⟩
      dsimp only at h
      cases e4 : evalE T Φ elt (Γ ++ [some m]) H4 with
      | bad => rw [bnd_bad e4] at h; cases h
      | exc c H5 => rw [bnd_exc e4] at h; cases h
      | ok y H5 => rw [bnd_ok e4] at h; cases h; exact ⟨y, rfl, rfl⟩
theorem comp_loop {ρ₁ : Rho} {s₁ : Shared} {D I : Addr} {cenv : Env} {xs ys : List Val} {src : Option Nat} {H₁ H₂ : Hp} {px pos : Pos} {iter : Expr} {R : Result → Shared → Prop} (hh : A.handled = none)
    (hD : s₁.heap.get? D = none) (hI : s₁.heap.get? I = none) (hDI : D ≠ I) (hC : s₁.heap.get? cenv.locals = none) (hX : ∀ q, csc.names.lookup x = some .cell → cenv.cells.lookup x = some q → s₁.heap.get? q = none)
    (hnd : ∀ (i j : Nat) (y : Str), (inner csc ns ++ [some x])[i]? = some (some y) → (inner csc ns ++ [some x])[j]? = some (some y) → i = j) (hΓ : Γ.length = ns.length) (hxk : csc.names.lookup x = some .local ∨ csc.names.lookup x = some .cell)
    (fr : FramesOk cx l ρ₁ s₁.heap) (lvB : Live cx.h₀ s₁.heap)
    (tests : ∀ Γ' : Env', Γ'.length = (inner csc ns ++ [some x]).length → Sim cx A ((Amb.env cx cenv csc (inner csc ns ++ [some x]) Γ').and (Amb.frames cx l)) (forIn ifs true fun c r => if r = true then do let ok ← isTrue c cenv (eval c cenv); pure (ForInStep.yield ok) else pure (ForInStep.yield r)) (evalC cx.T Φ cond Γ') BV)
    (elts : ∀ Γ' : Env', Γ'.length = (inner csc ns ++ [some x]).length → Sim cx A ((Amb.env cx cenv csc (inner csc ns ++ [some x]) Γ').and (Amb.frames cx l)) (eval e cenv) (evalE cx.T Φ elt Γ') (Amb.vr cx))
    (hz : ys.length < sizeLine) {s : Shared} {ρ : Rho} (ci : CInv cx ρ₁ s₁.heap D I cenv csc (inner csc ns ++ [some x]) Γ xs src 0 [] H₁ ρ s) (hres : compL (chk src xs) (stepOf cx.T Φ cond elt Γ) xs H₁ = .ok ys H₂)
    (k : ∀ ρ' s', Full ρ₁ s₁.heap ρ' s'.heap → Rel cx (H₂ ++ [.list ys]) ρ' s' → VR cx ρ' s'.heap (.loc H₂.length) (.ref D) → (∃ m, s'.heap.Ns cenv.locals m) → ¬ Owned ρ' cenv.locals → R (.ok .next) s') :
    codeAny (model cx.prog cx.w) A (.compLoop (.ListComp e [⟨.Name x px, iter, ifs, 0⟩] csc pos) 0 (.ref I) (.ref D) cenv) R s := by
  obtain ⟨Inv, hInv⟩ : ∃ Inv : Nat → Shared → Prop, ∀ n s, Inv n s ↔ ∃ i done H ρ rest, CInv cx ρ₁ s₁.heap D I cenv csc (inner csc ns ++ [some x]) Γ xs src i done H ρ s ∧ i ≤ xs.length ∧ n = xs.length + 1 - i ∧
    compL (chk src xs) (stepOf cx.T Φ cond elt Γ) (xs.drop i) H = .ok rest H₂ ∧ done ++ rest = ys := ⟨_, fun _ _ => Iff.rfl⟩
  refine codeAny_compLoop_tests Inv ?_ (xs.length + 1) ((hInv _ _).mpr ⟨0, [], H₁, ρ, ys, ci, Nat.zero_le _, rfl, hres, rfl⟩)
  intro n s hin
  obtain ⟨i, done, H, ρ, rest, ci, hi, rfl, hr, hys⟩ := (hInv _ _).mp hin
  obtain ⟨vs, nn, gD, rD⟩ := ci.acc
  obtain ⟨oo, eok⟩ := ci.env
  obtain ⟨oI, gI, iO⟩ := ci.it.obj
  cases hx : xs[i]? with
  | none =>
    have hlen := List.getElem?_eq_none_iff.mp hx
    rw [List.drop_eq_nil_of_le hlen] at hr
    obtain ⟨ck, rfl, rfl⟩ := compL_nil hr
    rw [List.append_nil] at hys
    subst hys
    refine iter_end hh ci.rel ci.it ck hx fun h' tk he => ?_
    have gD' : h'.get? D = some (listO vs nn) := he D _ hDI gD
    have st : Step ρ s.heap ρ h' := Step.ext gI he iO.not.1 iO.not.2
    have bI : cx.h₀.get? I = none := lvB.none hI
    have R' : Rel cx H ρ { s with heap := h', toks := tk } := ci.rel.same st (fun b o ho eb => he b o (fun w => ci.nI (w ▸ ho)) eb) fun b o eb => he b o (fun w => by rw [w, bI] at eb; cases eb) (ci.rel.base b o eb)
    obtain ⟨R2, v2⟩ := Rel.adopt (s := { s with heap := h', toks := tk }) R' gD' (rD.step st) (Nat.le_of_lt hz) ci.nD (lvB.none hD)
    have F2 : Full ρ₁ s₁.heap ρ h' := ci.full.fresh hI he
    obtain ⟨m, hm⟩ := eok.st.loc
    have nIl : I ≠ cenv.locals := eok.st.notLoc gI iO.notDict
    refine k _ _ (F2.addOwn ⟨hD, hD⟩) R2 v2 ⟨m, Heap_Ns_keep hm fun o eo => ⟨o, he _ o (fun w => nIl w.symm) eo, rfl⟩⟩ ?_
    intro ⟨p, hp, h⟩
    rcases List.mem_append.mp hp with hp | hp
    · exact eok.st.locN ⟨p, hp, h⟩
    · rw [List.mem_singleton.mp hp] at h
      have : cenv.locals = D := by rcases h with h | h <;> exact h
      exact eok.st.notLoc gD (fun es k q => by cases q) this.symm
  | some m =>
    have lt : i < xs.length := (List.getElem?_eq_some_iff.mp hx).1
    have hdrop : xs.drop i = m :: xs.drop (i + 1) := by
      rw [List.drop_eq_getElem_cons lt]
      rw [List.getElem?_eq_getElem lt] at hx
      cases hx; rfl
    rw [hdrop] at hr
    obtain ⟨ck, r, H3, e1, rest', e2, hrest⟩ := compL_cons hr
    refine iter_item ci.rel ci.it ck hx fun v h' tk hs hlive kk => ?_
    obtain ⟨oI', gI'⟩ := hlive
    have st : Step ρ s.heap ρ h' := Step.but gI' gI hs iO.not.1 iO.not.2
    obtain ⟨vm, it'⟩ := kk st
    have bI : cx.h₀.get? I = none := lvB.none hI
    have R' : Rel cx H ρ { s with heap := h', toks := tk } := ci.rel.but gI' gI hs iO.not.1 iO.not.2 ci.nI bI
    have ext : ∀ b o, b ≠ I → s.heap.get? b = some o → h'.get? b = some o := fun b o nb eb => by rw [hs.2 b nb]; exact eb
    have eok' : EnvOk cx cenv csc (inner csc ns ++ [some x]) (Γ ++ [oo]) ρ h' := eok.but ext (eok.st.notLoc gI iO.notDict) (eok.st.notCell gI iO.notCell) st
    have F' : Full ρ₁ s₁.heap ρ h' := ci.full.fresh hI ext
    have gD' : h'.get? D = some (listO vs nn) := ext D _ hDI gD
    have lenN : (inner csc ns).length = ns.length := by unfold inner; rw [List.length_map]
    have own : isOwn csc (inner csc ns ++ [some x]) ns.length x = true := by
      unfold isOwn
      have e0 : (inner csc ns ++ [some x])[ns.length]? = some (some x) := by rw [List.getElem?_append_right (by rw [lenN]; exact Nat.le_refl _), lenN]; simp
      rw [e0]
      rcases hxk with w | w <;> rw [w] <;> simp
    refine wpAny_assign_Name (store_var (s := { s with heap := h', toks := tk }) (Γ := Γ ++ [oo]) (by rw [List.length_append, List.length_append, hΓ, lenN]; rfl) hnd R' eok' own vm fun h2 tk2 FS R2 eok2 hq => ?_)
    obtain ⟨q, oq, hqd, hqs, gq⟩ := hq
    have set_eq : (Γ ++ [oo]).set ns.length (some m) = Γ ++ [some m] := by
      rw [← hΓ, List.set_append_right _ _ (Nat.le_refl _), Nat.sub_self]; rfl
    rw [set_eq] at eok2
    have qfresh : s₁.heap.get? q = none := by
      rcases hqd with ⟨_, rfl⟩ | ⟨w1, w2⟩
      · exact hC
      · exact hX q w1 w2
    have ext2 : ∀ b o, b ≠ q → h'.get? b = some o → h2.get? b = some o := fun b o nb eb => by rw [hqs.2 b nb]; exact eb
    have F2 : Full ρ₁ s₁.heap ρ h2 := F'.fresh qfresh ext2
    have qD : D ≠ q := by
      rcases hqd with ⟨_, rfl⟩ | ⟨w1, w2⟩
      · exact eok'.st.notLoc gD' (fun es k q => by cases q)
      · exact fun w => eok'.st.notCell gD' (fun v q => by cases q) x (w ▸ w2)
    obtain ⟨oI2, gI2, iO2⟩ := it'.obj
    have qI : I ≠ q := by
      rcases hqd with ⟨_, rfl⟩ | ⟨w1, w2⟩
      · exact eok'.st.notLoc gI2 iO2.notDict
      · exact fun w => eok'.st.notCell gI2 iO2.notCell x (w ▸ w2)
    have St2 : Step ρ h' ρ h2 := FullS.step eok'.st FS
    have it2 : ItOk cx xs I (i + 1) ρ h2 src := it'.step St2 fun o eo => ext2 I o qI eo
    have rD2 : VRs cx ρ h2 done vs := (rD.step st).step St2
    have gD2 : h2.get? D = some (listO vs nn) := ext2 D _ qD gD'
    have lenG : (Γ ++ [some m]).length = (inner csc ns ++ [some x]).length := by rw [List.length_append, List.length_append, hΓ, lenN]; rfl
    -- the tests
    obtain ⟨b, H4, e3, e4⟩ := stepOf_ok e1
    have T := tests (Γ ++ [some m]) lenG H ρ { s with heap := h2, toks := tk2 } R2 ⟨eok2, fr.full F2⟩
    rw [e3] at T
    refine wpAny_mono T (fun b' s3 ⟨ρ3, F3, R3, hb⟩ => ?_) fun _ _ q => q.elim
    have hb' : b' = b := hb
    subst hb'
    have F3' : Full ρ₁ s₁.heap ρ3 s3.heap := F2.trans F3
    have gD3 : s3.heap.get? D = some (listO vs nn) := F3.keep.exact gD2 ci.nD (fun es k q => by cases q)
    have nD3 : ¬ Owned ρ3 D := F3.grow.not ci.nD gD2
    obtain ⟨oI3, gI3, iO3⟩ := it2.obj
    have it3 : ItOk cx xs I (i + 1) ρ3 s3.heap src := it2.step F3.step fun o eo => by
      rw [gI3] at eo; cases eo
      exact F3.keep.exact gI3 ci.nI iO3.notDict
    have nI3 : ¬ Owned ρ3 I := F3.grow.not ci.nI gI3
    have rD3 : VRs cx ρ3 s3.heap done vs := rD2.step F3.step
    have eok3 : EnvOk cx cenv csc (inner csc ns ++ [some x]) (Γ ++ [some m]) ρ3 s3.heap := eok2.full F3
    rcases e4 with ⟨rfl, rfl, rfl⟩ | ⟨rfl, y, e4, rfl⟩
    · rw [if_neg Bool.false_ne_true]
      exact ⟨xs.length + 1 - (i + 1), by omega, (hInv _ _).mpr ⟨i + 1, done, H4, ρ3, rest', ⟨F3', R3, ⟨_, eok3⟩, it3, ⟨vs, nn, gD3, rD3⟩, nD3, nI3⟩, lt, rfl, e2, by rw [← hys, hrest]⟩⟩
    · rw [if_pos rfl]
      have T2 := elts (Γ ++ [some m]) lenG H4 ρ3 s3 R3 ⟨eok3, fr.full F3'⟩
      rw [e4] at T2
      refine wpAny_mono T2 (fun yv s4 ⟨ρ4, F4, R4, hy⟩ => ?_) fun _ _ q => q.elim
      have F4' : Full ρ₁ s₁.heap ρ4 s4.heap := F3'.trans F4
      have gD4 : s4.heap.get? D = some (listO vs nn) := F4.keep.exact gD3 nD3 (fun es k q => by cases q)
      have nD4 : ¬ Owned ρ4 D := F4.grow.not nD3 gD3
      obtain ⟨oI4, gI4, iO4⟩ := it3.obj
      have it4 : ItOk cx xs I (i + 1) ρ4 s4.heap src := it3.step F4.step fun o eo => by
        rw [gI4] at eo; cases eo
        exact F4.keep.exact gI4 nI3 iO4.notDict
      have nI4 : ¬ Owned ρ4 I := F4.grow.not nI3 gI4
      have rD4 : VRs cx ρ4 s4.heap done vs := rD3.step F4.step
      have eok4 := eok3.full F4
      have hlenD : vs.length < sizeLine := by
        rw [← rD.length]
        have : ys.length = done.length + rest.length := by rw [← hys, List.length_append]
        have : done.length < ys.length := by rw [this, hrest]; simp
        omega
      refine append_at gD4 (Nat.le_of_lt hlenD) fun h5 n5 gD5 hs5 => ?_
      have St5 : Step ρ4 s4.heap ρ4 h5 := Step.but gD5 gD4 hs5 listO_not.1 listO_not.2
      have ext5 : ∀ b o, b ≠ D → s4.heap.get? b = some o → h5.get? b = some o := fun b o nb eb => by rw [hs5.2 b nb]; exact eb
      have R5 : Rel cx H3 ρ4 { s4 with heap := h5 } := R4.but (tk := s4.toks) gD5 gD4 hs5 listO_not.1 listO_not.2 nD4 (lvB.none hD)
      refine ⟨xs.length + 1 - (i + 1), by omega, (hInv _ _).mpr ⟨i + 1, done ++ [y], H3, ρ4, rest', ⟨F4'.fresh hD ext5, R5, ⟨_, eok4.but ext5 (eok4.st.notLoc gD4 (fun es k q => by cases q)) (eok4.st.notCell gD4 (fun v q => by cases q)) St5⟩, it4.step St5 fun o eo => ext5 I o (fun w => hDI w.symm) eo, ⟨_, _, gD5, (rD4.step St5).append (.one (hy.step St5))⟩, nD4, nI4⟩, lt, rfl, e2, ?_⟩⟩
      rw [← hys, hrest, List.append_assoc]; rfl
end
end Mine

-- part MCompE
namespace Mine
open PySem

theorem foldedSet_of {i : Expr} (h : notSet i = true) (env : Env) (x : Value) : foldedSetIterable i env x = pure x := by
  cases i <;> first | rfl | cases h

section
variable {cx : Cx} {N : Names} {A : Around} {env : Env} {sc csc : Scope} {ns : List (Option Str)} {Γ : Env'} {H : Hp} {ρ ρ' : Rho} {s : Shared} {Φ : Funs} {l : List Env} {x : Str} {cond : MEo} {elt : ME} {ifs : List Expr} {e : Expr}

/- an object that is not owned, not the base's, and that no value leans on is turned -/
theorem Rel.ext (R : Rel cx H ρ s) {h' : Heap} {tk : Nat} {a : Addr} {o : Obj} (e : s.heap.get? a = some o) (hs : Heap.ExtBut a s.heap h') (n1 : ¬ Fixed o) (n2 : ∀ C, ¬ IsExcO o C) (no : ¬ Owned ρ a) (nb : cx.h₀.get? a = none) :
    Rel cx H ρ { s with heap := h', toks := tk } :=
  R.same (Step.ext e hs n1 n2) (fun b ob ho eb => hs b ob (fun q => no (q ▸ ho)) eb) fun b ob eb => hs b ob (fun q => by subst q; rw [nb] at eb; cases eb) (R.base b ob eb)

theorem iter_self {xs : List Val} {I : Addr} {i : Nat} {src : Option Nat} (x : ItOk cx xs I i ρ s.heap src) {Q : Value → Shared → Prop} {E : Value → Shared → Prop} (k : Q (.ref I) s) : wpAny (model cx.prog cx.w) A (pyIter (.ref I)) Q E s := by
  cases x with
  | list hp hi => exact wpAny_pyIter_listiter hi k
  | tup e n r hi => exact wpAny_pyIter_tupleiter hi k
  | script e r hi => exact wpAny_pyIter_listiter hi k
  | rng e hi => exact wpAny_pyIter_rangeiter hi k
  | str e ht hs =>
    rcases ht with rfl | rfl
    · exact wpAny_pyIter_striter_ascii hs k
    · exact wpAny_pyIter_striter_wide hs k

/- what a comprehension's parts do -/
structure CParts (cx : Cx) (A : Around) (Φ : Funs) (l : List Env) (csc : Scope) (ns' : List (Option Str)) (cond : MEo) (elt : ME) (ifs : List Expr) (e : Expr) : Prop where
  tests : ∀ (cenv : Env) (Γ' : Env'), Γ'.length = ns'.length → Sim cx A ((Amb.env cx cenv csc ns' Γ').and (Amb.frames cx l)) (forIn ifs true fun c r => if r = true then do let ok ← isTrue c cenv (eval c cenv); pure (ForInStep.yield ok) else pure (ForInStep.yield r)) (evalC cx.T Φ cond Γ') BV
  elts : ∀ (cenv : Env) (Γ' : Env'), Γ'.length = ns'.length → Sim cx A ((Amb.env cx cenv csc ns' Γ').and (Amb.frames cx l)) (eval e cenv) (evalE cx.T Φ elt Γ') (Amb.vr cx)

set_option tactic.hygienic true in
theorem inner_inj (hnd : ∀ (i j : Nat) (y : Str), ns[i]? = some (some y) → ns[j]? = some (some y) → i = j) (hx : csc.names.lookup x = some .local ∨ csc.names.lookup x = some .cell) :
    ∀ (i j : Nat) (y : Str), (inner csc ns ++ [some x])[i]? = some (some y) → (inner csc ns ++ [some x])[j]? = some (some y) → i = j := by
  have lenN : (inner csc ns).length = ns.length := by unfold inner; rw [List.length_map]
  have at' : ∀ (i : Nat) (y : Str), (inner csc ns ++ [some x])[i]? = some (some y) → (ns[i]? = some (some y) ∧ csc.names.lookup y = some .free) ∨ (i = ns.length ∧ y = x) := by
    intro i y h
    by_cases lt : i < ns.length
    · rw [List.getElem?_append_left (by rw [lenN]; exact lt)] at h
      unfold inner at h
      rw [List.getElem?_map] at h
      cases hn : ns[i]? with
      | none => rw [hn] at h; cases h
      | some oy =>
        rw [hn] at h
        cases oy with
        | none => cases h
        | some y' =>
          simp only [Option.map_some, Option.some.injEq] at h
          split at h
          · rename_i hf; cases h; exact .inl ⟨rfl, hf⟩
          · cases h
    · rw [List.getElem?_append_right (by rw [lenN]; omega), lenN] at h
      cases q : i - ns.length with
      | zero => rw [q] at h; simp at h; exact .inr ⟨by omega, h.symm⟩
      | succ n => rw [q] at h; simp at h
  intro i j y hi hj
  rcases at' i y hi with ⟨a1, a2⟩ | ⟨a1, a2⟩ <;> rcases at' j y hj with ⟨b1, b2⟩ | ⟨b1, b2⟩
  · exact hnd i j y a1 b1
  · subst b2; rcases hx with w | w <;> rw [w] at a2 <;> cases a2
  · subst a2; rcases hx with w | w <;> rw [w] at b2 <;> cases b2
  · omega

theorem comp_block (hh : A.handled = none) (hc : compOk sc csc x = true) (hnd : ∀ (i j : Nat) (y : Str), ns[i]? = some (some y) → ns[j]? = some (some y) → i = j) (hΓ : Γ.length = ns.length)
    (pt : CParts cx A Φ l csc (inner csc ns ++ [some x]) cond elt ifs e)
    {v : Val} {xv : Value} {xs ys : List Val} {src : Option Nat} {H₂ : Hp} {px pos : Pos} {iter : Expr} {RR : Value → Addr → Result → Shared → Prop} {E : Value → Shared → Prop}
    (R : Rel cx H ρ s) (e0 : EnvOk cx env sc ns Γ ρ s.heap) (fr : FramesOk cx l ρ s.heap) (vr : VR cx ρ s.heap v xv) (hit : iterOf v H = some (xs, src)) (hres : compL (chk src xs) (stepOf cx.T Φ cond elt Γ) xs H = .ok ys H₂) (hz : ys.length < sizeLine)
    (k : ∀ D C ρ' s', Full ρ s.heap ρ' s'.heap → Rel cx (H₂ ++ [.list ys]) ρ' s' → VR cx ρ' s'.heap (.loc H₂.length) (.ref D) → (∃ m, s'.heap.Ns C m) → ¬ Owned ρ' C → s.heap.get? C = none → RR (.ref D) C (.ok .next) s') :
    wpAny (model cx.prog cx.w) A (pyIter xv) (fun it s₂ => wpAny (model cx.prog cx.w) A (newList []) (fun acc s₃ => wpAny (model cx.prog cx.w) A (newFunctionEnv csc env.globals (cloOf env csc.names []) [] env.qual none .none (some env)) (fun cenv s₄ =>
      codeAny (model cx.prog cx.w) A (.compStart (.ListComp e [⟨.Name x px, iter, ifs, 0⟩] csc pos) 0 it acc { cenv with scope := relabel csc env }) (RR acc cenv.locals) s₄) E s₃) E s₂) E s := by
  obtain ⟨c1, c2, c3⟩ := compOk_parts hc
  have lvB : Live cx.h₀ s.heap := fun b o e => ⟨o, R.base b o e⟩
  refine iter_start R vr hit fun o go it0 => ?_
  refine wpAny_newObj_type ?_
  refine wpAny_newCompEnv _ ?_
  -- the three heaps
  generalize hs1 : ({ s with heap := s.heap.push o } : Shared) = s1 at it0
  have h1 : s1.heap = s.heap.push o := by rw [← hs1]
  have F1 : Full ρ s.heap ρ s1.heap := by rw [h1]; exact Full.push _ _ _
  have R1 : Rel cx H ρ s1 := by rw [← hs1]; exact R.push o s.toks
  generalize hs2 : ({ s1 with heap := s1.heap.push (listO [] 0) } : Shared) = s2
  have h2 : s2.heap = s1.heap.push (listO [] 0) := by rw [← hs2]
  have F2 : Full ρ s1.heap ρ s2.heap := by rw [h2]; exact Full.push _ _ _
  have R2 : Rel cx H ρ s2 := by rw [← hs2]; exact R1.push (listO [] 0) s1.toks
  have z1 : s1.heap.objs.size = s.heap.objs.size + 1 := by rw [h1, Heap.size_push]
  have z2 : s2.heap.objs.size = s.heap.objs.size + 2 := by rw [h2, Heap.size_push, z1]
  have F12 : Full ρ s.heap ρ s2.heap := F1.trans F2
  have e2 : EnvOk cx env sc ns Γ ρ s2.heap := e0.full F12
  obtain ⟨ce, cf⟩ := comp_env R2 e2 hc hΓ
  have F3 : Full ρ s2.heap ρ (compHeap csc s2.heap) := Full.more (compHeap_keep csc s2.heap)
  have R3 : Rel cx H ρ { s2 with heap := compHeap csc s2.heap } := R2.more (tk := s2.toks) (compHeap_keep csc s2.heap)
  have hDn : s.heap.get? s1.heap.objs.size = none := fresh_le (by rw [z1]; exact Nat.le_succ _)
  have hIn : s.heap.get? s.heap.objs.size = none := fresh_none _
  have hCn : s.heap.get? s2.heap.objs.size = none := fresh_le (by rw [z2]; exact Nat.le_add_right _ _)
  have gD2 : s2.heap.get? s1.heap.objs.size = some (listO [] 0) := by rw [h2]; exact Heap.get?_push_size _ rfl
  have it1 : ItOk cx xs s.heap.objs.size 0 ρ s1.heap src := by rw [h1]; exact it0
  have go1 : s1.heap.get? s.heap.objs.size = some o := by rw [h1]; exact go
  have it3 : ItOk cx xs s.heap.objs.size 0 ρ (compHeap csc s2.heap) src := (it1.step F2.step fun o' eo => by rw [h2]; exact Heap.get?_push_of_some _ eo).step F3.step (compHeap_keep csc s2.heap _)
  have ci : CInv cx ρ s.heap s1.heap.objs.size s.heap.objs.size (compEnv csc env s2.heap.objs.size) csc (inner csc ns ++ [some x]) Γ xs src 0 [] H ρ { s2 with heap := compHeap csc s2.heap } :=
    ⟨F12.trans F3, R3, ⟨none, ce⟩, it3, ⟨[], 0, compHeap_keep csc s2.heap _ _ gD2, .nil⟩, R.fresh_not hDn, R.fresh_not hIn⟩
  have loop : codeAny (model cx.prog cx.w) A (.compLoop (.ListComp e [⟨.Name x px, iter, ifs, 0⟩] csc pos) 0 (.ref s.heap.objs.size) (.ref s1.heap.objs.size) (compEnv csc env s2.heap.objs.size)) (RR (.ref s1.heap.objs.size) s2.heap.objs.size) { s2 with heap := compHeap csc s2.heap } := by
    refine comp_loop (s₁ := s) (ρ₁ := ρ) (l := l) hh hDn hIn (by rw [z1]; exact Nat.succ_ne_self _) hCn (fun q w1 w2 => ?_) (inner_inj hnd c2) hΓ c2 fr lvB (fun Γ' h' => pt.tests _ Γ' h') (fun Γ' h' => pt.elts _ Γ' h') hz ci hres fun ρ' s' F' R' v' m' n' => ?_
    · have := cf q w1 w2
      cases g : s.heap.get? q with
      | none => rfl
      | some ob =>
        obtain ⟨o', eo'⟩ := F12.live q ob g
        rw [this] at eo'; cases eo'
    · exact k _ _ ρ' s' F' R' v' m' n' hCn
  have key := codeAny_compStart_list loop (iter_self (ρ := ρ) (s := { s2 with heap := compHeap csc s2.heap }) it3 loop)
  subst hs1
  subst hs2
  exact key

theorem compPost_mono {E E' : Value → Shared → Prop} {use : Option (Value → Sem Unit)} {Q Q' : Value → Shared → Prop} {acc : Value} {C : Addr} {r : Result} {s' : Shared} {M : Model} (h : compPost M A E use Q acc C r s') (k1 : ∀ a s, Q a s → Q' a s) (k2 : ∀ e s, E e s → E' e s) : compPost M A E' use Q' acc C r s' := by
  unfold compPost at h ⊢
  cases r with
  | ok f =>
    cases use with
    | none => obtain ⟨m, hm, h⟩ := h; exact ⟨m, hm, fun h' hs => k1 _ _ (h h' hs)⟩
    | some u => exact wpAny_mono h (fun _ s'' ⟨m, hm, h⟩ => ⟨m, hm, fun h' hs => k1 _ _ (h h' hs)⟩) k2
  | error x =>
    cases use with
    | none => obtain ⟨m, hm, h⟩ := h; exact ⟨m, hm, fun h' hs c hc => wpAny_mono (h h' hs c hc) (fun _ _ q => q) k2⟩
    | some u => obtain ⟨m, hm, h⟩ := h; exact ⟨m, hm, fun h' hs c hc => wpAny_mono (h h' hs c hc) (fun _ _ q => q) k2⟩

theorem quiet_ok {α : Type} {m : M α} {H H' : Hp} {a : α} (h : M.quiet m H = .ok a H') : m H = .ok a H' := by
  unfold M.quiet at h
  split at h
  · cases h
  · exact h
set_option tactic.hygienic true in
theorem quiet_exc {α : Type} {m : M α} {H H' : Hp} {c : Nat} (h : M.quiet m H = .exc c H') : False := by
  unfold M.quiet at h
  split at h
  · cases h
  · rename_i q; exact q c H' h

noncomputable def compRest (T : Tab) (Φ : Funs) (cond : MEo) (elt : ME) (Γ : Env') (v : Val) : M Val := (M.look (iterOf v)).bnd fun p =>
  (M.quiet (compL (chk p.2 p.1) (stepOf T Φ cond elt Γ) p.1)).bnd fun ys => if ys.length < lid then M.alloc (.list ys) else .bad
theorem comp_eval (T : Tab) (Φ : Funs) (cond : MEo) (elt it : ME) (Γ : Env') : evalE T Φ (.comp elt it cond) Γ = (evalE T Φ it Γ).bnd (compRest T Φ cond elt Γ) := by
  rfl
theorem compRest_cases {T : Tab} {Φ : Funs} {cond : MEo} {elt : ME} {Γ : Env'} {v : Val} {H : Hp} : compRest T Φ cond elt Γ v H = .bad ∨
    ∃ xs src ys H₂, iterOf v H = some (xs, src) ∧ compL (chk src xs) (stepOf T Φ cond elt Γ) xs H = .ok ys H₂ ∧ ys.length < sizeLine ∧ compRest T Φ cond elt Γ v H = .ok (.loc H₂.length) (H₂ ++ [.list ys]) := by
  unfold compRest
  cases e1 : iterOf v H with
  | none => left; rw [bnd_bad (look_none e1)]
  | some p =>
    rw [bnd_ok (look_some e1)]
    obtain ⟨xs, src⟩ := p
    dsimp only
    cases e2 : M.quiet (compL (chk src xs) (stepOf T Φ cond elt Γ) xs) H with
    | bad => left; rw [bnd_bad e2]
    | exc c H' => exact (quiet_exc e2).elim
    | ok ys H₂ =>
      rw [bnd_ok e2]
      by_cases q : ys.length < lid
      · right
        refine ⟨xs, src, ys, H₂, rfl, quiet_ok e2, by rw [← sizeLine_lid]; exact q, ?_⟩
        rw [if_pos q]; rfl
      · left; rw [if_neg q]; rfl

theorem nsO_not {h : Heap} {C : Addr} {m : Str → Option Value} (n : h.Ns C m) : ∃ o, h.get? C = some o ∧ ¬ Fixed o ∧ ∀ D, ¬ IsExcO o D := by
  obtain ⟨o, es, ep, e, d, _⟩ := n
  exact ⟨o, e, fun f => f.notDict _ _ d, fun D f => f.notDict _ _ d⟩

theorem eok_comp (hh : A.handled = none) {it : ME} {i : Expr} {px pos : Pos} (hi : notSet i = true) (hc : compOk sc csc x = true) (hnd : ∀ (i j : Nat) (y : Str), ns[i]? = some (some y) → ns[j]? = some (some y) → i = j) (hΓ : Γ.length = ns.length)
    (pt : CParts cx A Φ l csc (inner csc ns ++ [some x]) cond elt ifs e) (y : EOk cx A ((Amb.env cx env sc ns Γ).and (Amb.frames cx l)) Φ env Γ it i) :
    EOk cx A ((Amb.env cx env sc ns Γ).and (Amb.frames cx l)) Φ env Γ (.comp elt it cond) (.ListComp e [⟨.Name x px, i, ifs, 0⟩] csc pos) := by
  obtain ⟨c1, c2, c3⟩ := compOk_parts hc
  refine EOk.of ?_ rfl
  intro H ρ s R p
  rw [comp_eval]
  refine SimAt.bindK (K' := fun Q E s => wpAny (model cx.prog cx.w) A (eval (.ListComp e [⟨.Name x px, i, ifs, 0⟩] csc pos) env) Q E s)
    (K := fun xv Q E s => wpAny (model cx.prog cx.w) A (pyIter xv) (fun it s₂ => wpAny (model cx.prog cx.w) A (newList []) (fun acc s₃ => wpAny (model cx.prog cx.w) A (newFunctionEnv csc env.globals (cloOf env csc.names []) [] env.qual none .none (some env)) (fun cenv s₄ =>
      codeAny (model cx.prog cx.w) A (.compStart (.ListComp e [⟨.Name x px, i, ifs, 0⟩] csc pos) 0 it acc { cenv with scope := relabel csc env }) (compPost (model cx.prog cx.w) A E none Q acc cenv.locals) s₄) E s₃) E s₂) E s) (y.val H ρ s R p) ?_ ?_ ?_
  · intro b xv H1 ρ1 s1 _ F1 R1 vr
    rcases compRest_cases (T := cx.T) (Φ := Φ) (cond := cond) (elt := elt) (Γ := Γ) (v := b) (H := H1) with w | ⟨xs, src, ys, H₂, w1, w2, w3, w4⟩
    · rw [w]; trivial
    · rw [w4]
      refine comp_block hh hc hnd hΓ pt R1 (p.1.full F1) (p.2.full F1) vr w1 w2 w3 fun D C ρ' s' F' R' v' m' n' hC => ?_
      obtain ⟨m, hm⟩ := m'
      obtain ⟨oC, gC, nf, nx⟩ := nsO_not hm
      have lvB : Live cx.h₀ s1.heap := fun b o e => ⟨o, R1.base b o e⟩
      refine ⟨m, hm, fun h' hs => ?_⟩
      have st : Step ρ' s'.heap ρ' h' := Step.ext gC hs.extBut nf nx
      exact ⟨ρ', F'.fresh hC hs.extBut, R'.ext (tk := s'.toks) gC hs.extBut nf nx n' (lvB.none hC), v'.step st⟩
  · intro xv Q E Q' E' s h k1 k2
    exact wpAny_mono h (fun it s₂ h2 => wpAny_mono h2 (fun acc s₃ h3 => wpAny_mono h3 (fun cenv s₄ h4 => codeAny_mono h4 fun r s' hr => compPost_mono hr k1 k2) k2) k2) k2
  · intro Q E h
    rw [eval_ListComp]
    exact wpAny_comprehension_free (use := none) (g := ⟨.Name x px, i, ifs, 0⟩) (gs := []) rfl (fun xv => foldedSet_of hi env xv)
      (closureFor_eq fun p' hp' hf => p.1.st.hasCell p'.1 (by rcases (c3 p' hp').2 hf with w | w; exact .inl w; exact .inr w)) c1 (fun p' hp' hl => by rw [(c3 p' hp').1, hl]) h
end
end Mine

-- part MInst
namespace Mine
open PySem
section
variable {cx : Cx} {N : Names} {A : Around} {Φ : Funs} {l : List Env} {d : Nat} {env : Env} {sc : Scope} {ns : List (Option Str)} {Γ : Env'} {H : Hp} {ρ : Rho} {s : Shared}

theorem VR.handed {m : Val} {v : Value} {h : Heap} (x : VR cx ρ h m v) : handedOut v = pure v := by cases x <;> rfl
/- the instance at a place of the mini heap -/
theorem Rel.instAt (R : Rel cx H ρ s) {i c : Nat} {fs : List (Nat × Val)} {p : Addr × Addr} (hH : H[i]? = some (.inst c fs)) (hρ : ρ[i]? = some p) :
    ∃ C o mA, (cx.T.meth c 0).isSome = true ∧ cx.cls[c]? = some (.ref C) ∧ s.heap.get? p.1 = some o ∧ o.cls = .ref C ∧ (∀ c, o.data ≠ .cls c) ∧ o.dict = some p.2 ∧ p.2 ≠ p.1 ∧ s.heap.Ns1 p.2 mA ∧
      (∀ n v, fs.lookup n = some v → ∃ y x, cx.attrs[n]? = some y ∧ mA y = some x ∧ VR cx ρ s.heap v x) ∧ (∀ y, mA y ≠ none → ∃ n v, cx.attrs[n]? = some y ∧ fs.lookup n = some v) := by
  have := R.objs i _ p hH hρ
  generalize ho : HObj.inst c fs = o at this
  cases this with
  | list _ _ _ => cases ho
  | dict _ _ _ => cases ho
  | hid _ => cases ho
  | inst k0 k e k1 k2 k3 k4 n f g => cases ho; exact ⟨_, _, _, k0, k, e, k1, k2, k3, k4, n, f, g⟩
theorem inst_of {h : Heap} {a b C : Addr} {o : Obj} {mA : Str → Option Value} (e : h.get? a = some o) (k1 : o.cls = .ref C) (k2 : ∀ c, o.data ≠ .cls c) (k3 : o.dict = some b) (k4 : b ≠ a) (n : h.Ns1 b mA) : h.Inst a C mA :=
  ⟨o, e, k1, k2, .inr ⟨b, k3, k4, n⟩⟩

theorem SimK.looks {α β : Type} {f : Hp → Option β} {K : (α → Shared → Prop) → (Value → Shared → Prop) → Shared → Prop} {V : β → α → Amb} (y : ∀ b, f H = some b → SimK cx (.ok b H) K V ρ s) : SimK cx (M.look f H) K V ρ s := by
  cases e : f H with
  | none => rw [look_none e]; trivial
  | some b => rw [look_some e]; exact y b e
/- an attribute is read -/
theorem wp_getattr (CB : ClsBase cx N) (R : Rel cx H ρ s) {i c n : Nat} {fs : List (Nat × Val)} {p : Addr × Addr} {y : Str} {m : Val} (hH : H[i]? = some (.inst c fs)) (hρ : ρ[i]? = some p) (hy : cx.attrs[n]? = some y) (hm : fs.lookup n = some m) {Q : Value → Shared → Prop} {E : Value → Shared → Prop}
    (k : ∀ v tk, VR cx ρ s.heap m v → Q v { s with toks := tk }) : wpAny (model cx.prog cx.w) A (getAttr (.ref p.1) y true) Q E s := by
  obtain ⟨C, o, mA, k0, kc, e, k1, k2, k3, k4, nn, f, g⟩ := R.instAt hH hρ
  obtain ⟨nm, q, Nn, bs, sn, sub, col, dd, q0, q1, q2, q3, q5, mN, hC, hN, h1, h2, h3, h4, h5⟩ := (CB.cls c C kc k0).is
  obtain ⟨y', x, hy', hx, vr⟩ := f n m hm
  rw [hy] at hy'; cases hy'
  exact load_attr (R.base _ _ hC) (hN.keeps R.base) h1 (h4 n y hy).1 (h4 n y hy).2 (inst_of e k1 k2 k3 k4 nn) hx vr.handed (k x _ vr)
theorem fput_self : ∀ (fs : List (Nat × Val)) (n : Nat) (v : Val), (fput fs n v).lookup n = some v
  | [], n, v => by simp [fput]
  | (m, u) :: r, n, v => by
    unfold fput
    by_cases e : m = n
    · rw [if_pos e, e]; simp
    · rw [if_neg e, List.lookup_cons]
      have : (n == m) = false := by simpa using fun q : n = m => e q.symm
      rw [this]; exact fput_self r n v
theorem fput_other : ∀ (fs : List (Nat × Val)) (n k : Nat) (v : Val), k ≠ n → (fput fs n v).lookup k = fs.lookup k
  | [], n, k, v, h => by
    have : (k == n) = false := by simpa using h
    simp [fput, List.lookup_cons, this]
  | (m, u) :: r, n, k, v, h => by
    unfold fput
    by_cases e : m = n
    · rw [if_pos e, e, List.lookup_cons, List.lookup_cons]
      have : (k == n) = false := by simpa using h
      rw [this]
    · rw [if_neg e, List.lookup_cons, List.lookup_cons, fput_other r n k v h]
/- an attribute is stored -/
theorem wp_setattr (CB : ClsBase cx N) (R : Rel cx H ρ s) {i c n : Nat} {fs : List (Nat × Val)} {p : Addr × Addr} {y : Str} {m : Val} {v : Value} (hH : H[i]? = some (.inst c fs)) (hρ : ρ[i]? = some p) (hy : cx.attrs[n]? = some y) (vr : VR cx ρ s.heap m v) {Q : Unit → Shared → Prop} {E : Value → Shared → Prop}
    (k : ∀ s', Full ρ s.heap ρ s'.heap → Rel cx (H.set i (.inst c (fput fs n m))) ρ s' → Q () s') : wpAny (model cx.prog cx.w) A (setAttr (.ref p.1) y v) Q E s := by
  obtain ⟨C, o, mA, k0, kc, e, k1, k2, k3, k4, nn, f, g⟩ := R.instAt hH hρ
  obtain ⟨nm, q, Nn, bs, sn, sub, col, dd, q0, q1, q2, q3, q5, mN, hC, hN, h1, h2, h3, h4, h5⟩ := (CB.cls c C kc k0).is
  have hxC : p.1 ≠ C := fun w => by have := (R.new p (List.mem_of_getElem? hρ)).1; rw [w, hC] at this; cases this
  refine store_attr F.store_object (R.base _ _ hC) (hN.keeps R.base) h3 (h4 n y hy).1 (h4 n y hy).2 hxC (inst_of e k1 k2 k3 k4 nn) (fun h' tk' I' hk hsame => ?_)
    (ns := cx.attrs) (fun z hz => by obtain ⟨j, _, hj, _⟩ := g z hz; exact List.mem_of_getElem? hj) CB.few
  obtain ⟨o₁, e1, c1, d1, _, dd1⟩ := hsame o e
  obtain ⟨o₂, e2, c2, n2, hd2⟩ := I'
  rw [e1] at e2; cases e2
  have nn' : h'.Ns1 p.2 (fun z => if z = y then some v else mA z) := by
    rcases hd2 with ⟨w, _⟩ | ⟨b, w, _, w2⟩
    · rw [dd1 _ k3] at w; cases w
    · rw [dd1 _ k3] at w; cases w; exact w2
  have keep : ∀ b ob, s.heap.get? b = some ob → b ≠ p.1 → b ≠ p.2 → h'.get? b = some ob := fun b ob eb w1 w2 => hk b ob w1 (fun o₀ dx f1 f2 => by rw [e] at f1; cases f1; rw [k3] at f2; cases f2; exact w2) eb
  have lv : Live s.heap h' := fun b ob eb => by
    by_cases w1 : b = p.1
    · rw [w1]; exact ⟨o₁, e1⟩
    · by_cases w2 : b = p.2
      · obtain ⟨on, _, _, en, _⟩ := nn'; rw [w2]; exact ⟨on, en⟩
      · exact ⟨ob, keep b ob eb w1 w2⟩
  have own : ∀ b, ¬ Owned ρ b → b ≠ p.1 ∧ b ≠ p.2 := fun b n => ⟨fun e => n ⟨p, List.mem_of_getElem? hρ, .inl e⟩, fun e => n ⟨p, List.mem_of_getElem? hρ, .inr e⟩⟩
  have F : Full ρ s.heap ρ h' := ⟨Grow.refl _ _, fun b ob eb n => ⟨ob, keep b ob eb (own b n).1 (own b n).2, .refl ob⟩, lv⟩
  obtain ⟨_, R'⟩ := R.set (tk := tk') (o := .inst c (fput fs n m)) hρ keep lv (by
    obtain ⟨p1, p2⟩ := p
    refine .inst k0 kc e1 (c1.trans k1) n2 (dd1 _ k3) k4 nn' (fun j u hj => ?_) (fun z hz => ?_)
    · by_cases w : j = n
      · subst w
        rw [fput_self] at hj; cases hj
        exact ⟨y, v, hy, by simp, vr.step F.step⟩
      · rw [fput_other _ _ _ _ w] at hj
        obtain ⟨y', x, hy', hx, vx⟩ := f j u hj
        have ne : y' ≠ y := fun q => w (CB.inj j n y (q ▸ hy') hy)
        exact ⟨y', x, hy', by simp [ne, hx], vx.step F.step⟩
    · by_cases w : z = y
      · exact ⟨n, m, w ▸ hy, fput_self _ _ _⟩
      · simp only [w, if_false] at hz
        obtain ⟨j, u, hj, hu⟩ := g z hz
        have ne : j ≠ n := fun q => w (by rw [q, hy] at hj; cases hj; rfl)
        exact ⟨j, u, hj, by rw [fput_other _ _ _ _ ne]; exact hu⟩)
  exact k _ F R'
/- a method of an own class is called -/
theorem wpAny_Call_own {o : Expr} {name : Str} {apos pos : Pos} {args : List Expr} {Q : Value → Shared → Prop} {E : Value → Shared → Prop} (hs : notSuper o = true) (hp : plainArgs env args) (hz : args.length ≤ 20) (hline : (apos.endLine == pos.line) = true)
    (h : wpAny (model cx.prog cx.w) A (eval o env) (fun ov s₁ => ∀ pl, wpAny (model cx.prog cx.w) A (getMethod ov name pl) (fun r s₂ => wpAny (model cx.prog cx.w) A (callWith pos r.1 r.2 (args.map fun e => (false, eval e env)) []) Q E s₂) E s₁) E s) :
    wpAny (model cx.prog cx.w) A (eval (.Call (.Attribute o name apos) args [] pos) env) Q E s := by
  rw [arm_eval_Call, attributeBase_of hs]
  refine wpAny_bind (wpAny_mono h (fun ov s₁ h₁ => ?_) fun _ _ e => e)
  refine wpAny_bind (wpAny_standAt ?_)
  have hform : methodCallForm (args.length + ([] : List Keyword).length) (backTo pos (starEach args env)) (backToKw pos (keywordEach [] env)) = true := plainArgs_few hp hz
  have hpos : methodCallPos true o env apos pos = pure pos := by unfold methodCallPos; simp [hline]
  unfold methodCall
  rw [hform, plainArgs_trees pos hp]
  refine wpAny_bind (wpAny_holding (wpAny_mono (h₁ _) (fun r s₂ h₂ => ?_) fun _ _ e => e))
  exact wpAny_bind (wpAny_of_eq hpos h₂)
theorem umeth_some {T : Tab} {v : Val} {m k : Nat} (h : (match v with | .loc i => (match H[i]? with | some (.inst c _) => T.meth c m | _ => none) | _ => none) = some k) : ∃ i c fs, v = .loc i ∧ H[i]? = some (.inst c fs) ∧ T.meth c m = some k := by
  split at h
  · split at h
    · exact ⟨_, _, _, rfl, by assumption, h⟩
    · cases h
  · cases h
/- an own class is called -/
theorem callWith_own {nm q : Str} {C Nn : Addr} {bs : List Value} {sn : List Str} {sub : List Value} {col : Option Bool} {dd : Option Addr} {k0 k1 k2 k3 k5 : Option Value} {pos : Pos} {args : List (Bool × Sem Value)} {Q : Value → Shared → Prop} {E : Value → Shared → Prop} (hplain : args.any (·.1) = false)
    (h : wpAny (model cx.prog cx.w) A (evalArgs (.ref C) true args []) (fun as s₁ => as.kw = [] ∧ s₁.heap.get? C = some (excClassObj nm q C Nn bs [.type "object"] true sn sub false col dd k0 k1 k2 k3 k5 "object.__new__") ∧ wpAny (model cx.prog cx.w) A (call (.ref C) as.pos) Q E s₁) E s) :
    wpAny (model cx.prog cx.w) A (callWith pos (.ref C) [] args []) Q E s := by
  unfold callWith
  refine wpAny_bind (wpAny_holding (wpAny_mono h (fun as s₁ h₁ => ?_) fun _ _ x => x))
  obtain ⟨e, hC, hc⟩ := h₁
  obtain ⟨ps, kw⟩ := as
  dsimp only at e hc
  subst e
  obtain ⟨hh, g, dr, t, os⟩ := s₁
  have f1 := tc_lookup
  have hT : (⟨hh, g, dr, t, os⟩ : Shared).TypeIs (.ref C) "type" := ⟨_, hC, rfl⟩
  refine wpAny_bind (wpAny_standAt ?_)
  show wpAny _ _ (keeperOf (.ref C) >>= _) _ _ _
  unfold keeperOf specialOf
  repeat (any_goals (first | assumption | with_reducible refine wpAny_loadPart_at hC ?_ | with_reducible refine wpAny_load' hC ?_ | wp_step))
  rw [if_pos (by rfl), hplain]
  show wpAny _ _ (call (.ref C) ps [] >>= fun r => do holding [r] point; pure r) _ _ _
  exact wpAny_bind (wpAny_mono hc (fun r s' hr => wpAny_bind (wpAny_holding (wpAny_point (wpAny_pure hr)))) fun _ _ x => x)
theorem Room.made {C : Addr} {vs : List Value} (r : Room A d) : RoomF (A.under (.builtin "type.__call__" ⟨.ref C :: vs, []⟩)) d := by
  refine ⟨r.hh, ?_, ?_⟩
  · show A.depth + 1 + 5 * d + 147 < recursionLimit
    have := r.depth; omega
  · show A.units + 1 + 20 * d + 90 < cLine
    have := r.units; omega
theorem newV_some {T : Tab} {c k : Nat} {ms : List Val} (h : T.meth c 0 = some k) : newV T Φ c ms H = (match Φ k (.loc H.length :: ms) (H ++ [.inst c []]) with
    | .ok r H' => (match r with | .none => Res.ok (.loc H.length) H' | _ => .bad)
    | .exc e H' => .exc e H'
    | .bad => .bad) := by
  unfold newV
  rw [h]
  show M.bnd _ _ _ = _
  rw [bnd_ok (show M.alloc (.inst c []) H = .ok (.loc H.length) (H ++ [.inst c []]) from rfl)]
  cases e : Φ k (.loc H.length :: ms) (H ++ [.inst c []]) with
  | bad => rw [bnd_bad e]
  | exc x H' => rw [bnd_exc e]
  | ok r H' => rw [bnd_ok e]; cases r <;> rfl
theorem simK_new (CB : ClsBase cx N) (hΦ : FunsOk cx Φ d) (room : Room A d) (hfr : A.frames = some l) {c : Nat} {C : Addr} {ms : List Val} {vs : List Value} (hc : cx.cls[c]? = some (.ref C)) (R : Rel cx H ρ s) (vrs : VRs cx ρ s.heap ms vs) (fr : FramesOk cx l ρ s.heap) :
    SimK cx (newV cx.T Φ c ms H) (fun Q E s => wpAny (model cx.prog cx.w) A (call (.ref C) vs) Q E s) (Amb.vr cx) ρ s := by
  cases hk : cx.T.meth c 0 with
  | none => unfold newV; rw [hk]; trivial
  | some k =>
    have hks : (cx.T.meth c 0).isSome = true := by rw [hk]; rfl
    obtain ⟨nm, q, Nn, bs, sn, sub, col, dd, q0, q1, q2, q3, q5, mN, hC, hN, h1, h2, h3, h4, h5⟩ := (CB.cls c C hc hks).is
    obtain ⟨fa, fo, fd, hfa, hmN, hfo, hfc, hfd, hna, _⟩ := h5 _ 0 k CB.init hk
    rw [newV_some hk]
    have main : ∀ (Q : Value → Shared → Prop) (E : Value → Shared → Prop), (∀ h' x dx, Heap.MadeObj s.heap h' x dx C → wpAny (model cx.prog cx.w) (A.under (.builtin "type.__call__" ⟨.ref C :: vs, []⟩)) (call (.ref fa) (.ref x :: vs)) (fun r s' => r = .none ∧ Q (.ref x) s') E { s with heap := h' }) → wpAny (model cx.prog cx.w) A (call (.ref C) vs) Q E s := by
      intro Q E hq
      exact wpAny_call_obj_init F.objNew (R.base _ _ hC) (hN.keeps R.base) hmN (R.base _ _ hfo) hfc hq
    have inner : ∀ h' x dx, Heap.MadeObj s.heap h' x dx C → Full ρ s.heap (ρ ++ [(x, dx)]) h' ∧ SimAt cx (A.under (.builtin "type.__call__" ⟨.ref C :: vs, []⟩)) (Φ k (.loc H.length :: ms) (H ++ [.inst c []])) (call (.ref fa) (.ref x :: vs)) (Amb.vr cx) (ρ ++ [(x, dx)]) { s with heap := h' } := by
      intro h' x dx mo
      obtain ⟨o, ho, oc, od, odd⟩ := mo.inst
      have hdx := mo.dict o ho
      have nn : dx ≠ x ∧ h'.Ns1 dx (fun _ => none) := by
        rcases odd with ⟨w, _⟩ | ⟨b, w, w1, w2⟩
        · rw [hdx] at w; cases w
        · rw [hdx] at w; cases w; exact ⟨w1, w2⟩
      obtain ⟨F, R'⟩ := R.alloc (tk := s.toks) (o := .inst c []) (p := (x, dx)) mo.keeps ⟨mo.newX, mo.newD⟩ (.inst hks hc ho oc od hdx nn.1 nn.2 (fun n v hv => by cases hv) (fun y hy => absurd rfl hy))
      have vx : VR cx (ρ ++ [(x, dx)]) h' (.loc H.length) (.ref x) := VR.loc (p := (x, dx)) (by rw [R.len, List.getElem?_append_right (Nat.le_refl _)]; simp)
      exact ⟨F, hΦ k fa (.loc H.length :: ms) (.ref x :: vs) _ l hfa room.made hfr _ _ _ R' ⟨.cons vx (vrs.step F.step), fr.full F⟩⟩
    cases hr : Φ k (.loc H.length :: ms) (H ++ [.inst c []]) with
    | bad => trivial
    | exc e H' =>
      refine main _ _ fun h' x dx mo => ?_
      obtain ⟨F, sm⟩ := inner h' x dx mo
      rw [hr] at sm
      exact wpAny_mono sm (fun _ _ q => q.elim) fun ex s' ⟨ρ', F', R', fl⟩ => ⟨ρ', F.trans F', R', fl.older F.live⟩
    | ok r H' =>
      cases r with
      | none =>
        refine main _ _ fun h' x dx mo => ?_
        obtain ⟨F, sm⟩ := inner h' x dx mo
        rw [hr] at sm
        refine wpAny_mono sm (fun r' s' ⟨ρ', F', R', vr⟩ => ⟨VR.none_inv vr, ρ', F.trans F', R', ?_⟩) fun _ _ q => q.elim
        exact VR.loc (p := (x, dx)) (F'.grow.get (by rw [R.len, List.getElem?_append_right (Nat.le_refl _)]; simp))
      | _ => trivial
theorem eok_new (B : Base cx N) (hΦ : FunsOk cx Φ d) (room : Room A d) (hfr : A.frames = some l) {c : Nat} {es : MEs} {x : Str} {np pos : Pos} {xs : List Expr} (hg : isGlob sc x = true) (hk : hasNo N.clss x c = true) (hes : ckEs N sc ns es xs = true)
    (y' : Sim cx A ((Amb.env cx env sc ns Γ).and (Amb.frames cx l)) (spliced (xs.map fun e => (false, eval e env))) (evalEs cx.T Φ es Γ) (Amb.vrs cx)) :
    EOk cx A ((Amb.env cx env sc ns Γ).and (Amb.frames cx l)) Φ env Γ (.new c es) (.Call (.Name x np) xs [] pos) := by
  refine EOk.of ?_ rfl
  intro H ρ s R p
  first | rw [ev_call] | rw [ev_new] | rw [ev_umeth] | rw [ev_bf] | rw [ev_isinst] | rw [ev_bm]
  cases hm : cx.T.meth c 0 with
  | none => trivial
  | some k =>
    have hks : (cx.T.meth c 0).isSome = true := by rw [hm]; rfl
    obtain ⟨mg, mb, ng, nb, _, _, q, _⟩ := B.ns
    obtain ⟨Cv, hC, hx⟩ := q x c (hasNo_eq hk)
    obtain ⟨C, rfl⟩ := B.cls.ref c Cv hC hks
    obtain ⟨nm, qn, Nn, bs, sn, sub, col, dd, q0, q1, q2, q3, q5, mN, hCo, _⟩ := (B.cls.cls c C hC hks).is
    refine SimK.mono (simK_args (f := .ref C) (K := fun vs Q E s => s.heap.get? C = some (excClassObj nm qn C Nn bs [.type "object"] true sn sub false col dd q0 q1 q2 q3 q5 "object.__new__") ∧ wpAny (model cx.prog cx.w) A (call (.ref C) vs) Q E s) (fun e => ckEs_nil (e ▸ hes)) R (y' H ρ s R p) ?_ ?_) ?_
    · intro ms vs H1 ρ1 s1 _ F1 R1 vrs
      exact SimK.andK (R1.base _ _ hCo) (simK_new B.cls hΦ room hfr hC R1 vrs (p.2.full F1))
    · exact fun vs Q E Q' E' s h k1 k2 => ⟨h.1, wpAny_mono h.2 k1 k2⟩
    · intro Q E h
      refine wpAny_Call_ofName (wp_glob R p.1.st hg ng nb hx ?_)
      rw [plainArgs_trees pos (ckEs_plain hes)]
      exact callWith_own (any_false _) (wpAny_mono h (fun b s₁ h₁ => by obtain ⟨h1, h2, h3⟩ := h₁; exact ⟨h1, h2, h3⟩) fun _ _ q => q)
end
end Mine

-- part MSlice
namespace Mine
open PySem
section
variable {cx : Cx} {N : Names} {A : Around} {P : Amb} {Φ : Funs} {l : List Env} {d : Nat} {env : Env} {sc : Scope} {ns : List (Option Str)} {Γ : Env'} {H : Hp} {ρ : Rho} {s : Shared}
theorem VRs.cut {h : Heap} {ms : List Val} {vs : List Value} (r : VRs cx ρ h ms vs) (p : Bool × Nat) : VRs cx ρ h (cut p ms) (cut p vs) := by
  obtain ⟨b, k⟩ := p
  cases b with
  | true => exact r.drop k
  | false => exact VRs.take r k
theorem cut_le {α : Type} (p : Bool × Nat) (xs : List α) : (cut p xs).length ≤ xs.length := by
  obtain ⟨b, k⟩ := p
  cases b with
  | true => show (xs.drop k).length ≤ _; rw [List.length_drop]; omega
  | false => show (xs.take k).length ≤ _; rw [List.length_take]; omega
/- what the parts say -/
set_option tactic.hygienic true in
theorem cut_parts {h : Heap} {lo hi : Val} {vl vu : Value} {p : Bool × Nat} (e : cutOf lo hi = some p) (x : VR cx ρ h lo vl) (y : VR cx ρ h hi vu) : ∃ a b, IsPart vl a ∧ IsPart vu b ∧ ∀ vs : List Value, slicePick vs.toArray a b none = (cut p vs).toArray := by
  cases lo with
  | int k =>
    cases hi with
    | none =>
      have e : (if 0 ≤ k then some (true, k.toNat) else none) = some p := e
      split at e
      · rename_i h0
        cases e
        obtain ⟨t, rfl⟩ := x.int_inv
        obtain rfl := y.none_inv
        refine ⟨_, _, .int k t, .none, fun vs => ?_⟩
        have := slicePick_from' vs.toArray k.toNat
        rwa [Int.toNat_of_nonneg h0] at this
      · cases e
    | _ => cases e
  | none =>
    cases hi with
    | int k =>
      have e : (if 0 ≤ k then some (false, k.toNat) else none) = some p := e
      split at e
      · rename_i h0
        cases e
        obtain ⟨t, rfl⟩ := y.int_inv
        obtain rfl := x.none_inv
        refine ⟨_, _, .none, .int k t, fun vs => ?_⟩
        have := slicePick_upto' vs.toArray k.toNat
        rwa [Int.toNat_of_nonneg h0] at this
      · cases e
    | _ => cases e
  | _ => cases e
/- what is owed behind a slice's parts -/
noncomputable def SlicePost (o vl vu : Value) (Q : Value → Shared → Prop) (s₃ : Shared) : Prop :=
  ∃ l items lo hi, o = .ref l ∧ s₃.heap.IsList l items ∧ items.size ≤ sizeLine ∧ IsPart vl lo ∧ IsPart vu hi ∧
    Q (.ref (s₃.heap.objs.size + 1)) { s₃ with heap := (s₃.heap.push { cls := .type "slice", data := .fields #[vl, vu, .none] }).push { cls := .type "list", data := .seq (slicePick items lo hi none) } }
theorem SlicePost.mono {o vl vu : Value} {Q Q' : Value → Shared → Prop} {s₃ : Shared} (h : SlicePost o vl vu Q s₃) (k : ∀ a s, Q a s → Q' a s) : SlicePost o vl vu Q' s₃ := by
  obtain ⟨l, items, lo, hi, h1, h2, h3, h4, h5, h6⟩ := h
  exact ⟨l, items, lo, hi, h1, h2, h3, h4, h5, k _ _ h6⟩
/- a part's list, as the model sees it -/
set_option tactic.hygienic true in
theorem items_list (R : Rel cx H ρ s) {a : Val} {v : Value} {xs : List Val} (x : VR cx ρ s.heap a v) (h : itemsOf a H = some xs) (ht : isTup a = false) : ∃ p vs n, v = .ref p ∧ s.heap.get? p = some (listO vs n) ∧ VRs cx ρ s.heap xs vs ∧ xs.length ≤ sizeLine := by
  cases a with
  | loc i =>
    obtain ⟨p, hp, rfl⟩ := x.loc_inv
    simp only [itemsOf] at h
    split at h
    · rename_i ys hl
      cases h
      obtain ⟨vs, n, _, g, r, z⟩ := R.listAt hl hp
      exact ⟨p.1, vs, n, rfl, g, r, z⟩
    · cases h
  | script ms =>
    cases h
    cases x with
    | script e z r => exact ⟨_, _, _, rfl, R.base _ _ e, r, by rw [List.length_map]; exact z⟩
  | tup ms => cases ht
  | _ => cases h
/- a slice of a list, whatever its base's form -/
theorem wp_slice_of {value : Expr} {lower upper : Option Expr} {p pos : Pos} {Q E : Value → Shared → Prop}
    (h : wpAny (model cx.prog cx.w) A (eval value env) (fun o s₁ => wpAny (model cx.prog cx.w) A (evalPart lower env) (fun vl s₂ => wpAny (model cx.prog cx.w) A (evalPart upper env) (fun vu s₃ => SlicePost o vl vu Q s₃) E s₂) E s₁) E s) :
    wpAny (model cx.prog cx.w) A (eval (.Subscript value (.Slice lower upper none p) pos) env) Q E s := by
  rw [eval_Subscript]
  refine wpAny_bind (wpAny_mono h (fun o s₁ h₁ => wpAny_bind (wpAny_holding (wpAny_Slice (wpAny_mono h₁ (fun vl s₂ h₂ => wpAny_mono h₂ (fun vu s₃ h₃ => ?_) fun _ _ x => x) fun _ _ x => x)))) fun _ _ x => x)
  obtain ⟨l, items, lo, hi, rfl, hl, hsz, pl, pu, hQ⟩ := h₃
  rw [evalPart_none]
  refine wpAny_pure (wpAny_bind (wpAny_standAt ?_))
  have ty := (hl.push { cls := .type "slice", data := .fields #[vl, vu, .none] }).typeIs (s := { s₃ with heap := s₃.heap.push { cls := .type "slice", data := .fields #[vl, vu, .none] } })
  have get : wpAny (model cx.prog cx.w) A (getItem (.ref l) (.ref s₃.heap.objs.size)) Q E { s₃ with heap := s₃.heap.push { cls := .type "slice", data := .fields #[vl, vu, .none] } } := by
    refine wpAny_getItem_list_slice (hl.push _) (Heap.IsSliceOf.new ..) pl pu .none (by simp) ?_ hsz
    rw [Heap.size_push]; exact hQ
  have fin : ∀ i, wpAny (model cx.prog cx.w) A (getItem (.ref l) i) Q E _ → wpAny (model cx.prog cx.w) A (operate [i, .ref l] (getItem (.ref l) i)) (fun r s₃ => wpAny (model cx.prog cx.w) A (letTemporaryGo value (.ref l) r >>= fun _ => pure r) Q E s₃) E { s₃ with heap := s₃.heap.push { cls := .type "slice", data := .fields #[vl, vu, .none] } } :=
    fun i g => wpAny_operating (wpAny_mono g (fun r s₃ h₃ => wpAny_bind (wpAny_letTemporaryGo (wpAny_pure h₃))) fun _ _ x => x)
  refine wpAny_bind ?_
  rw [getitemInPython_of_ne ty.not_modules]
  exact wpAny_bind (wpAny_specialOf ty list_getitem_lookup (wpAny_pure (wpAny_bind (fin _ get))))
set_option tactic.hygienic true in
theorem eok_slice {a : ME} {lo hi : MEo} {x : Expr} {p pos : Pos} {lw up : Option Expr} (ha : EOk cx A P Φ env Γ a x) (hl : Sim cx A P (evalPart lw env) (evalO cx.T Φ lo Γ) (Amb.vr cx)) (hu : Sim cx A P (evalPart up env) (evalO cx.T Φ hi Γ) (Amb.vr cx)) :
    EOk cx A P Φ env Γ (.slice a lo hi) (.Subscript x (.Slice lw up none p) pos) := by
  refine EOk.of ?_ rfl
  intro H ρ s R p0
  rw [ev_slice]
  refine SimAt.bindK (K' := fun Q E s => wpAny (model cx.prog cx.w) A (eval (.Subscript x (.Slice lw up none p) pos) env) Q E s)
    (K := fun o Q E s => wpAny (model cx.prog cx.w) A (evalPart lw env) (fun vl s₂ => wpAny (model cx.prog cx.w) A (evalPart up env) (fun vu s₃ => SlicePost o vl vu Q s₃) E s₂) E s) (ha.val H ρ s R p0) ?_ ?_ (fun Q E h => wp_slice_of h)
  · intro b ov H1 ρ1 s1 _ F1 R1 vr
    refine SimAt.bindK (K' := fun Q E s => wpAny (model cx.prog cx.w) A (evalPart lw env) (fun vl s₂ => wpAny (model cx.prog cx.w) A (evalPart up env) (fun vu s₃ => SlicePost ov vl vu Q s₃) E s₂) E s)
      (K := fun vl Q E s => wpAny (model cx.prog cx.w) A (evalPart up env) (fun vu s₃ => SlicePost ov vl vu Q s₃) E s) (hl H1 ρ1 s1 R1 (P.st _ _ _ _ p0 F1)) ?_ ?_ (fun Q E h => h)
    · intro b2 vl H2 ρ2 s2 _ F2 R2 vr2
      refine SimAt.bindK (K' := fun Q E s => wpAny (model cx.prog cx.w) A (evalPart up env) (fun vu s₃ => SlicePost ov vl vu Q s₃) E s)
        (K := fun vu Q E s₃ => SlicePost ov vl vu Q s₃) (hu H2 ρ2 s2 R2 (P.st _ _ _ _ (P.st _ _ _ _ p0 F1) F2)) ?_ ?_ (fun Q E h => h)
      · intro b3 vu H3 ρ3 s3 _ F3 R3 vr3
        have v1 : VR cx ρ3 s3.heap b ov := VR.step F3.step (VR.step F2.step vr)
        have v2 : VR cx ρ3 s3.heap b2 vl := VR.step F3.step vr2
        have v3 : VR cx ρ3 s3.heap b3 vu := vr3
        show SimK cx (sliceV b b2 b3 H3) _ _ ρ3 s3
        unfold sliceV
        split
        · rename_i q hq
          split
          · rename_i xs hx
            by_cases ht : isTup b = true
            · rw [if_pos ht]; trivial
            · rw [if_neg ht]
              obtain ⟨a, vs, n, rfl, g, r, z⟩ := items_list R3 v1 hx (by simpa using ht)
              obtain ⟨pa, pb, q1, q2, q3⟩ := cut_parts hq v2 v3
              refine ⟨a, vs.toArray, pa, pb, rfl, ⟨_, g, rfl, n, rfl⟩, by simp only [List.size_toArray]; rw [← r.length]; exact z, q1, q2, ?_⟩
              rw [q3]
              have F4 : Full ρ3 s3.heap ρ3 (s3.heap.push { cls := .type "slice", data := .fields #[vl, vu, .none] }) := Full.push _ _ _
              have R4 := R3.push { cls := .type "slice", data := .fields #[vl, vu, .none] } s3.toks
              have := R4.newList (s := { s3 with heap := s3.heap.push { cls := .type "slice", data := .fields #[vl, vu, .none] } }) s3.toks ((VRs.cut r q).step F4.step) (Nat.le_trans (cut_le _ _) z)
              rw [Heap.size_push] at this
              obtain ⟨ρ', F', R', vr'⟩ := this
              exact ⟨ρ', F4.trans F', R', vr'⟩
          · trivial
        · trivial
      · exact fun vu Q E Q' E' s h k1 _ => h.mono k1
    · exact fun vl Q E Q' E' s h k1 k2 => wpAny_mono h (fun vu s₃ h' => h'.mono k1) k2
  · exact fun ov Q E Q' E' s h k1 k2 => wpAny_mono h (fun vl s₂ h' => wpAny_mono h' (fun vu s₃ h'' => h''.mono k1) k2) k2
end
end Mine

-- part MEval
namespace Mine
open PySem
section
variable {cx : Cx} {N : Names} {A : Around} {Φ : Funs} {l : List Env} {d : Nat}

/- all that the walk over an expression leans on -/
structure Ground (cx : Cx) (N : Names) (A : Around) (Φ : Funs) (l : List Env) (d : Nat) : Prop where
  base : Base cx N
  room : Room A d
  frames : A.frames = some l
  funs : FunsOk cx Φ d
  defs : ∀ (f : Nat) (a : Addr), cx.fns[f]? = some a → ∃ g, cx.T.funs[f]? = some g
theorem Ground.u (G : Ground cx N A Φ l d) : A.units + 100 < cLine := by have := G.room.units; omega

/- the names of a frame are told apart -/
noncomputable def Apart (ns : List (Option Str)) : Prop := ∀ (i j : Nat) (y : Str), ns[i]? = some (some y) → ns[j]? = some (some y) → i = j

theorem bm_len {m : BM} {ms : List Val} {xs : List Expr} (h1 : (bmName m).2 = xs.length) (h2 : ms.length = xs.length) : ms.length = (bmName m).2 := by rw [h1, h2]

theorem bm_one (hu : A.units + 100 < cLine) (m : BM) (b : Val) (v : Value) (ms : List Val) (vs : List Value) (hl : ms.length = (bmName m).2) : Sim cx A ((Amb.vr cx b v).and (Amb.vrs cx ms vs)) (call (.builtin (bmAt m).2) (v :: vs)) (bmV m b ms) (Amb.vr cx) := by
  cases m with
  | append => exact bm_append b v ms vs hl
  | rstrip => exact bm_rstrip b v ms vs hl

set_option maxHeartbeats 4000000 in
mutual
theorem eok (G : Ground cx N A Φ l d) : ∀ (m : ME) (e : Expr) (env : Env) (sc : Scope) (ns : List (Option Str)) (Γ : Env'), ck N sc ns m e = true → Apart ns → Γ.length = ns.length → EOk cx A ((Amb.env cx env sc ns Γ).and (Amb.frames cx l)) Φ env Γ m e
  | .none, e, env, sc, ns, Γ, h, _, _ => by
    obtain ⟨k, pos, rfl⟩ := inv_none h
    refine EOk.of (fun H ρ s R p => ?_) rfl
    rw [ev_none]
    exact simAt_pure R fun Q E k => wpAny_Constant_none (k _ s.toks .none)
  | .bool b, e, env, sc, ns, Γ, h, _, _ => by
    obtain ⟨k, pos, rfl⟩ := inv_bool h
    refine EOk.of (fun H ρ s R p => ?_) rfl
    rw [ev_bool]
    exact simAt_pure R fun Q E k => wpAny_Constant_bool (k _ s.toks (.bool b))
  | .int i, e, env, sc, ns, Γ, h, _, _ => by
    obtain ⟨k, pos, rfl⟩ := inv_int h
    refine EOk.of (fun H ρ s R p => ?_) rfl
    rw [ev_int]
    exact simAt_pure R fun Q E k => wpAny_Constant_int (k _ _ (.int _ _))
  | .str v, e, env, sc, ns, Γ, h, _, _ => by
    obtain ⟨k, pos, rfl, z⟩ := inv_str h
    refine EOk.of (fun H ρ s R p => ?_) rfl
    rw [ev_str]
    exact simAt_pure R fun Q E k => wpAny_Constant_str (k _ _ (.str _ _ (by rw [sizeLine_eq]; omega)))
  | .glob k, e, env, sc, ns, Γ, h, _, _ => by
    obtain ⟨x, pos, rfl, h1, h2⟩ := inv_glob h
    exact EOk.of (sim_glob G.base h1 h2 Φ).and1 rfl
  | .var i, e, env, sc, ns, Γ, h, _, _ => by
    obtain ⟨x, pos, rfl, h1⟩ := inv_var h
    exact EOk.of (sim_var h1 Φ).and1 rfl
  | .bin op a b, e, env, sc, ns, Γ, h, ha, hΓ => by
    obtain ⟨x, o, y, pos, rfl, h1, h2, h3⟩ := inv_bin h
    exact eok_bin h1 (eok G a x env sc ns Γ h2 ha hΓ) (eok G b y env sc ns Γ h3 ha hΓ)
  | .neg a, e, env, sc, ns, Γ, h, ha, hΓ => by
    obtain ⟨x, pos, rfl, h1⟩ := inv_neg h
    exact eok_neg (eok G a x env sc ns Γ h1 ha hΓ)
  | .not a, e, env, sc, ns, Γ, h, ha, hΓ => by
    obtain ⟨x, pos, rfl, h1⟩ := inv_not h
    exact eok_not (eok G a x env sc ns Γ h1 ha hΓ)
  | .and a b, e, env, sc, ns, Γ, h, ha, hΓ => by
    obtain ⟨x, y, rest, pos, rfl, h1, h2⟩ := inv_and h
    refine eok_and (eok G a x env sc ns Γ h1 ha hΓ) ?_
    rcases h2 with ⟨rfl, h2⟩ | h2
    · exact EOks.one (eok G b y env sc ns Γ h2 ha hΓ)
    · exact EOks.more (eok G b _ env sc ns Γ h2 ha hΓ)
  | .or a b, e, env, sc, ns, Γ, h, ha, hΓ => by
    obtain ⟨x, y, rest, pos, rfl, h1, h2⟩ := inv_or h
    refine eok_or (eok G a x env sc ns Γ h1 ha hΓ) ?_
    rcases h2 with ⟨rfl, h2⟩ | h2
    · exact EOks.one (eok G b y env sc ns Γ h2 ha hΓ)
    · exact EOks.more (eok G b _ env sc ns Γ h2 ha hΓ)
  | .cmp op a b, e, env, sc, ns, Γ, h, ha, hΓ => by
    obtain ⟨x, y, pos, rfl, h1, h2, h3⟩ := inv_cmp h
    exact eok_cmp G.u h3 (eok G a x env sc ns Γ h1 ha hΓ) (eok G b y env sc ns Γ h2 ha hΓ)
  | .cmp2 op1 op2 a b c, e, env, sc, ns, Γ, h, ha, hΓ => by
    obtain ⟨x, y, z, pos, rfl, h1, h2, h3, h4⟩ := inv_cmp2 h
    exact eok_cmp2 G.u h4 (eok G a x env sc ns Γ h1 ha hΓ) (eok G b y env sc ns Γ h2 ha hΓ) (eok G c z env sc ns Γ h3 ha hΓ)
  | .sub a i, e, env, sc, ns, Γ, h, ha, hΓ => by
    obtain ⟨x, y, pos, rfl, h1, h2⟩ := inv_sub h
    exact eok_sub G.u (eok G a x env sc ns Γ h1 ha hΓ) (eok G i y env sc ns Γ h2 ha hΓ)
  | .slice a lo hi, e, env, sc, ns, Γ, h, ha, hΓ => by
    obtain ⟨v, lw, up, p, pos, rfl, h1, h2, h3⟩ := inv_slice h
    exact eok_slice (eok G a v env sc ns Γ h1 ha hΓ) (eopt G lo lw env sc ns Γ h2 ha hΓ) (eopt G hi up env sc ns Γ h3 ha hΓ)
  | .list es, e, env, sc, ns, Γ, h, ha, hΓ => by
    obtain ⟨xs, pos, rfl, h1, h2⟩ := inv_list h
    exact EOk.of (sim_list (ckEs_plain h1) h2 (fun _ _ _ e => evalEs_length h1 e) (eoks G es xs env sc ns Γ h1 ha hΓ)) rfl
  | .dict, e, env, sc, ns, Γ, h, ha, hΓ => by
    obtain ⟨pos, rfl⟩ := inv_dict h
    exact EOk.of sim_dict rfl
  | .call f es, e, env, sc, ns, Γ, h, ha, hΓ => by
    obtain ⟨x, np, xs, pos, rfl, h1, h2, h3, h4⟩ := inv_call h
    refine EOk.of ?_ rfl
    obtain ⟨mg, mb, ng, nb, q, _⟩ := G.base.ns
    obtain ⟨a, ha', _⟩ := q x f (hasNo_eq h2)
    exact sim_callU G.base (fun a args vals h => G.funs f a args vals A l h G.room.toF G.frames) h1 h2 (G.defs f a ha') h3 (eoks G es xs env sc ns Γ h3 ha hΓ)
  | .new c es, e, env, sc, ns, Γ, h, ha, hΓ => by
    obtain ⟨x, np, xs, pos, rfl, h1, h2, h3, h4⟩ := inv_new h
    exact eok_new G.base G.funs G.room G.frames h1 h2 h3 (eoks G es xs env sc ns Γ h3 ha hΓ)
  | .bf f es, e, env, sc, ns, Γ, h, ha, hΓ => by
    obtain ⟨x, np, xs, pos, rfl, h1, h2, h3, h4⟩ := inv_bf h
    exact eok_bf G.base G.room.hh G.u h1 h2 h3 h4 (eoks G es xs env sc ns Γ h4 ha hΓ)
  | .bm a m es, e, env, sc, ns, Γ, h, ha, hΓ => by
    obtain ⟨o, y, apos, xs, pos, rfl, h1, rfl, h3, h4, h5, h6⟩ := inv_bm h
    refine EOk.of ?_ rfl
    exact sim_bm h5 (ckEs_plain h4) (by rw [← h3]; cases m <;> decide) (fun e => ckEs_nil (e ▸ h4)) h6 (eok G a o env sc ns Γ h1 ha hΓ).val (eoks G es xs env sc ns Γ h4 ha hΓ)
      (fun b v ms vs hl => bm_one G.u m b v ms vs (bm_len h3 hl)) (fun _ _ _ e => evalEs_length h4 e)
  | .isinst a t, e, env, sc, ns, Γ, h, ha, hΓ => by
    obtain ⟨f, np, x, y, yp, pos, rfl, h1, h2, h3, h4, h5⟩ := inv_isinst h
    have z := eok G a x env sc ns Γ h4 ha hΓ
    cases t with
    | cls c => exact eok_isiC G.base h1 h2 h3 h5 (ck_notStar h4) z
    | int => exact eok_isi G.base (fun c => by intro q; cases q) h1 h2 h3 (of_decide_eq_true h5) (ck_notStar h4) z
    | bool => exact eok_isi G.base (fun c => by intro q; cases q) h1 h2 h3 (of_decide_eq_true h5) (ck_notStar h4) z
    | str => exact eok_isi G.base (fun c => by intro q; cases q) h1 h2 h3 (of_decide_eq_true h5) (ck_notStar h4) z
    | tuple => exact eok_isi G.base (fun c => by intro q; cases q) h1 h2 h3 (of_decide_eq_true h5) (ck_notStar h4) z
    | list => exact eok_isi G.base (fun c => by intro q; cases q) h1 h2 h3 (of_decide_eq_true h5) (ck_notStar h4) z
  | .comp elt it cond, e, env, sc, ns, Γ, h, ha, hΓ => by
    obtain ⟨el, x, px, i, ifs, csc, pos, rfl, h1, h2, h3, h4, h5⟩ := inv_comp h
    exact eok_comp G.room.hh h2 h3 ha hΓ ⟨fun cenv Γ' hΓ' => econd G cond ifs cenv csc _ Γ' h5 (inner_inj ha (compOk_parts h3).2.1) hΓ', fun cenv Γ' hΓ' => (eok G elt el cenv csc _ Γ' h4 (inner_inj ha (compOk_parts h3).2.1) hΓ').val⟩ (eok G it i env sc ns Γ h1 ha hΓ)
theorem eopt (G : Ground cx N A Φ l d) : ∀ (o : MEo) (x : Option Expr) (env : Env) (sc : Scope) (ns : List (Option Str)) (Γ : Env'), ckO N sc ns o x = true → Apart ns → Γ.length = ns.length → Sim cx A ((Amb.env cx env sc ns Γ).and (Amb.frames cx l)) (evalPart x env) (evalO cx.T Φ o Γ) (Amb.vr cx)
  | .none, none, env, sc, ns, Γ, _, _, _ => by
    intro H ρ s R p
    rw [evalPart_none]
    exact wpAny_pure ⟨ρ, Full.refl _ _, R, .none⟩
  | .some e, some x, env, sc, ns, Γ, h, ha, hΓ => by
    rw [evalPart_some]
    exact (eok G e x env sc ns Γ h ha hΓ).val
  | .none, some _, env, sc, ns, Γ, h, ha, hΓ => by cases (show false = true from h)
  | .some _, none, env, sc, ns, Γ, h, ha, hΓ => by cases (show false = true from h)
theorem econd (G : Ground cx N A Φ l d) : ∀ (cond : MEo) (ifs : List Expr) (cenv : Env) (csc : Scope) (ns' : List (Option Str)) (Γ' : Env'), ckC N csc ns' cond ifs = true → Apart ns' → Γ'.length = ns'.length →
    Sim cx A ((Amb.env cx cenv csc ns' Γ').and (Amb.frames cx l)) (forIn ifs true fun c r => if r = true then do let ok ← isTrue c cenv (eval c cenv); pure (ForInStep.yield ok) else pure (ForInStep.yield r)) (evalC cx.T Φ cond Γ') BV
  | .none, [], cenv, csc, ns', Γ', h2, ha, hΓ => by
    intro H ρ s R p
    exact wpAny_tests_nil ⟨ρ, Full.refl _ _, R, rfl⟩
  | .some c, [i], cenv, csc, ns', Γ', h2, ha, hΓ => by
    rw [evc_some]
    exact (eok G c i cenv csc ns' Γ' h2 ha hΓ).tru.pre fun Q E s h => wpAny_tests_one h
  | .none, _ :: _, cenv, csc, ns', Γ', h2, ha, hΓ => by cases (show false = true from h2)
  | .some _, [], cenv, csc, ns', Γ', h2, ha, hΓ => by cases (show false = true from h2)
  | .some _, _ :: _ :: _, cenv, csc, ns', Γ', h2, ha, hΓ => by cases (show false = true from h2)
theorem eoks (G : Ground cx N A Φ l d) : ∀ (ms : MEs) (xs : List Expr) (env : Env) (sc : Scope) (ns : List (Option Str)) (Γ : Env'), ckEs N sc ns ms xs = true → Apart ns → Γ.length = ns.length →
    Sim cx A ((Amb.env cx env sc ns Γ).and (Amb.frames cx l)) (spliced (xs.map fun e => (false, eval e env))) (evalEs cx.T Φ ms Γ) (Amb.vrs cx)
  | .nil, [], env, sc, ns, Γ, h, ha, hΓ => sim_nil
  | .nil, _ :: _, env, sc, ns, Γ, h, ha, hΓ => by cases (show false = true from h)
  | .cons _ _, [], env, sc, ns, Γ, h, ha, hΓ => by cases (show false = true from h)
  | .cons m ms, x :: xs, env, sc, ns, Γ, h, ha, hΓ => by
    have h := And.intro (an1 h) (an2 h)
    exact sim_cons (eok G m x env sc ns Γ h.1 ha hΓ).val (eoks G ms xs env sc ns Γ h.2 ha hΓ)
end
end
end Mine

-- part MExec
namespace Mine
open PySem
section
variable {cx : Cx} {N : Names} {A : Around} {Φ : Funs} {l : List Env} {d : Nat} {env : Env} {sc : Scope} {ns : List (Option Str)} {Γ : Env'} {H : Hp} {ρ ρ' : Rho} {s : Shared}

noncomputable def SimSK (cx : Cx) (env : Env) (sc : Scope) (ns : List (Option Str)) (r : ResS) (T : (Flow → Shared → Prop) → (Value → Shared → Prop) → Shared → Prop) (ρ : Rho) (s : Shared) : Prop :=
  match r with
  | .bad => True
  | .next Γ' H' => T (fun f s' => f = .next ∧ ∃ ρ', FullS env ρ s.heap ρ' s'.heap ∧ Rel cx H' ρ' s' ∧ EnvOk cx env sc ns Γ' ρ' s'.heap) (fun _ _ => False) s
  | .ret v H' => T (fun f s' => ∃ v' ρ', f = .ret v' ∧ FullS env ρ s.heap ρ' s'.heap ∧ Rel cx H' ρ' s' ∧ (VR cx ρ' s'.heap v v' ∧ EnvSt cx env sc ρ' s'.heap)) (fun _ _ => False) s
  | .exc c Γ' H' => T (fun _ _ => False) (fun e s' => ∃ ρ', FullS env ρ s.heap ρ' s'.heap ∧ Rel cx H' ρ' s' ∧ EnvOk cx env sc ns Γ' ρ' s'.heap ∧ Flying cx ρ' s.heap s'.heap c e) s
theorem SimSK.of {r : ResS} {t : Sem Flow} (x : SimSAt cx A env sc ns r t ρ s) : SimSK cx env sc ns r (fun Q E s => wpAny (model cx.prog cx.w) A t Q E s) ρ s := by cases r <;> exact x
theorem SimSK.to {r : ResS} {t : Sem Flow} (x : SimSK cx env sc ns r (fun Q E s => wpAny (model cx.prog cx.w) A t Q E s) ρ s) : SimSAt cx A env sc ns r t ρ s := by cases r <;> exact x
theorem SimSK.mono {r : ResS} {T T' : (Flow → Shared → Prop) → (Value → Shared → Prop) → Shared → Prop} (x : SimSK cx env sc ns r T ρ s) (k : ∀ Q E, T Q E s → T' Q E s) : SimSK cx env sc ns r T' ρ s := by cases r <;> first | trivial | exact k _ _ x
/- from a state that came by a step that keeps all but the frame -/
theorem SimSK.after {r : ResS} {T T' : (Flow → Shared → Prop) → (Value → Shared → Prop) → Shared → Prop} {ρ' : Rho} {s' : Shared} (x : SimSK cx env sc ns r T ρ' s') (F : FullS env ρ s.heap ρ' s'.heap) (mk : MonoK T) (k : ∀ Q E, T Q E s' → T' Q E s) : SimSK cx env sc ns r T' ρ s := by
  cases r with
  | bad => trivial
  | next Γ' H' => exact k _ _ (mk _ _ _ _ _ x (fun f s'' ⟨h1, ρ'', F', R', e'⟩ => ⟨h1, ρ'', F.trans F', R', e'⟩) fun _ _ q => q)
  | ret v H' => exact k _ _ (mk _ _ _ _ _ x (fun f s'' ⟨v', ρ'', h1, F', R', e'⟩ => ⟨v', ρ'', h1, F.trans F', R', e'⟩) fun _ _ q => q)
  | exc c Γ' H' => exact k _ _ (mk _ _ _ _ _ x (fun _ _ q => q) fun e s'' ⟨ρ'', F', R', e', fl⟩ => ⟨ρ'', F.trans F', R', e', fl.older F.live⟩)

theorem SimSAt.bindK {α β : Type} {t : Sem α} {m : M β} {V : β → α → Amb} {g : β → Hp → ResS} {K : α → (Flow → Shared → Prop) → (Value → Shared → Prop) → Shared → Prop} {K' : (Flow → Shared → Prop) → (Value → Shared → Prop) → Shared → Prop} (e0 : EnvOk cx env sc ns Γ ρ s.heap) (x : SimAt cx A (m H) t V ρ s)
    (y : ∀ b a H' ρ' s', m H = .ok b H' → Full ρ s.heap ρ' s'.heap → Rel cx H' ρ' s' → EnvOk cx env sc ns Γ ρ' s'.heap → (V b a).P ρ' s'.heap → SimSK cx env sc ns (g b H') (K a) ρ' s')
    (mk : ∀ a, MonoK (K a))
    (k : ∀ Q E, wpAny (model cx.prog cx.w) A t (fun a s' => K a Q E s') E s → K' Q E s) :
    SimSK cx env sc ns (bndS m Γ g H) K' ρ s := by
  unfold bndS
  cases e : m H with
  | bad => trivial
  | exc c H' =>
    rw [e] at x
    exact k _ _ (wpAny_mono x (fun _ _ q => q.elim) fun ex s' ⟨ρ', F, R, fl⟩ => ⟨ρ', F.toS, R, e0.full F, fl⟩)
  | ok b H' =>
    rw [e] at x
    show SimSK cx env sc ns (g b H') K' ρ s
    cases e2 : g b H' with
    | bad => trivial
    | next Γ2 H2 =>
      refine k _ _ (wpAny_mono x (fun a s' ⟨ρ', F, R, v⟩ => ?_) fun _ _ q => q.elim)
      have z := y b a H' ρ' s' e F R (e0.full F) v
      rw [e2] at z
      exact mk a _ _ _ _ _ z (fun f s'' ⟨h1, ρ'', F', R', e'⟩ => ⟨h1, ρ'', F.toS.trans F', R', e'⟩) fun _ _ q => q.elim
    | ret v2 H2 =>
      refine k _ _ (wpAny_mono x (fun a s' ⟨ρ', F, R, v⟩ => ?_) fun _ _ q => q.elim)
      have z := y b a H' ρ' s' e F R (e0.full F) v
      rw [e2] at z
      exact mk a _ _ _ _ _ z (fun f s'' ⟨v', ρ'', h1, F', R', e'⟩ => ⟨v', ρ'', h1, F.toS.trans F', R', e'⟩) fun _ _ q => q.elim
    | exc c2 Γ2 H2 =>
      refine k _ _ (wpAny_mono x (fun a s' ⟨ρ', F, R, v⟩ => ?_) fun _ _ q => q.elim)
      have z := y b a H' ρ' s' e F R (e0.full F) v
      rw [e2] at z
      exact mk a _ _ _ _ _ z (fun _ _ q => q) fun ex s'' ⟨ρ'', F', R', e', fl⟩ => ⟨ρ'', F.toS.trans F', R', e', fl.older F.live⟩
theorem SimSK.look {β : Type} {f : Hp → Option β} {g : β → Hp → ResS} {K : (Flow → Shared → Prop) → (Value → Shared → Prop) → Shared → Prop} (y : ∀ b, f H = some b → SimSK cx env sc ns (g b H) K ρ s) : SimSK cx env sc ns (bndS (M.look f) Γ g H) K ρ s := by
  unfold bndS
  cases e : f H with
  | none => rw [look_none e]; trivial
  | some b => rw [look_some e]; exact y b e

theorem FramesOk.stmt {h h' : Heap} (fr : FramesOk cx l ρ h) (F : FullS env ρ h ρ' h') (e0 : EnvSt cx env sc ρ h) (e1 : EnvSt cx env sc ρ' h') : FramesOk cx l ρ' h' := fun en he => by
  obtain ⟨k, L, o, h1, h2, h3, h5, h6⟩ := fr en he
  by_cases q : L = env.locals
  · obtain ⟨m, o', es, ep, e', d, _⟩ := e1.loc
    rw [← q] at e'
    exact ⟨k, L, o', h1, h2, e', ⟨_, _, d⟩, by rw [q]; exact e1.locN⟩
  · obtain ⟨es, n, hd⟩ := h5
    obtain ⟨o', e', u⟩ := F.keep L o h3 h6 q (e0.notCell h3 fun v w => by rw [hd] at w; cases w)
    exact ⟨k, L, o', h1, h2, e', ⟨es, n, by rw [u.data]; exact hd⟩, F.grow.not h6 h3⟩

/- one statement, then the others -/
theorem sim_then {st : Stmt} {rest : List Stmt} {m : Env' → Hp → ResS} {g : Env' → Hp → ResS} (e0 : EnvOk cx env sc ns Γ ρ s.heap) (fr : FramesOk cx l ρ s.heap) (x : SimSAt cx A env sc ns (m Γ H) (exec st env) ρ s) (y : SimS cx A l env sc ns (execs rest env) g) :
    SimSAt cx A env sc ns (thenS (m Γ H) g) (execs (st :: rest) env) ρ s := by
  cases e : m Γ H with
  | bad => trivial
  | ret v H' =>
    rw [e] at x
    exact wpAny_execs_cons (wpAny_mono x (fun f s' q => by obtain ⟨v', ρ', rfl, q⟩ := q; exact ⟨v', ρ', rfl, q⟩) fun _ _ q => q)
  | exc c Γ' H' =>
    rw [e] at x
    exact wpAny_execs_cons (wpAny_mono x (fun f s' q => q.elim) fun _ _ q => q)
  | next Γ' H' =>
    rw [e] at x
    show SimSAt cx A env sc ns (g Γ' H') _ ρ s
    cases e2 : g Γ' H' with
    | bad => trivial
    | next Γ2 H2 =>
      refine wpAny_execs_cons (wpAny_mono x (fun f s' q => ?_) fun _ _ q => q.elim)
      obtain ⟨rfl, ρ', F, R, e'⟩ := q
      have z := y Γ' H' ρ' s' R e' (fr.stmt F e0.st e'.st)
      rw [e2] at z
      exact wpAny_mono z (fun f s'' ⟨h1, ρ'', F', R', e'⟩ => ⟨h1, ρ'', F.trans F', R', e'⟩) fun _ _ q => q.elim
    | ret v2 H2 =>
      refine wpAny_execs_cons (wpAny_mono x (fun f s' q => ?_) fun _ _ q => q.elim)
      obtain ⟨rfl, ρ', F, R, e'⟩ := q
      have z := y Γ' H' ρ' s' R e' (fr.stmt F e0.st e'.st)
      rw [e2] at z
      exact wpAny_mono z (fun f s'' ⟨v', ρ'', h1, F', R', e'⟩ => ⟨v', ρ'', h1, F.trans F', R', e'⟩) fun _ _ q => q.elim
    | exc c2 Γ2 H2 =>
      refine wpAny_execs_cons (wpAny_mono x (fun f s' q => ?_) fun _ _ q => q.elim)
      obtain ⟨rfl, ρ', F, R, e'⟩ := q
      have z := y Γ' H' ρ' s' R e' (fr.stmt F e0.st e'.st)
      rw [e2] at z
      exact wpAny_mono z (fun _ _ q => q.elim) fun ex s'' ⟨ρ'', F', R', e', fl⟩ => ⟨ρ'', F.trans F', R', e', fl.older F.live⟩

theorem sk_assign {i : Nat} {y : Str} {mv : Val} {v : Value} (ha : Apart ns) (R : Rel cx H ρ s) (e0 : EnvOk cx env sc ns Γ ρ s.heap) (ho : isOwn sc ns i y = true) (hv : VR cx ρ s.heap mv v) :
    SimSK cx env sc ns (.next (Γ.set i (some mv)) H) (fun Q E s => wpAny (model cx.prog cx.w) A (storeName env y v) (fun _ => Q .next) E s) ρ s :=
  store_var e0.len ha R e0 ho hv fun h' tk F' R' e' _ => ⟨rfl, ρ, F', R', e'⟩

theorem monoK_store {y : Str} {v : Value} : MonoK (α := Flow) fun Q E s => wpAny (model cx.prog cx.w) A (storeName env y v) (fun _ => Q .next) E s := fun _ _ _ _ _ h k1 k2 => wpAny_mono h (fun _ _ => k1 _ _) k2
end
end Mine

-- part MWalk
namespace Mine
open PySem
section
variable {cx : Cx} {N : Names} {A : Around} {Φ : Funs} {l : List Env} {d : Nat} {env : Env} {sc : Scope} {ns : List (Option Str)} {Γ : Env'} {H : Hp} {ρ ρ' : Rho} {s : Shared}

/- what a statement owes -/
noncomputable def PostS (cx : Cx) (env : Env) (sc : Scope) (ns : List (Option Str)) (ρ : Rho) (h : Heap) (r : ResS) (Q : Flow → Shared → Prop) (E : Value → Shared → Prop) : Prop :=
  match r with
  | .bad => True
  | .next Γ' H' => ∀ s' ρ', FullS env ρ h ρ' s'.heap → Rel cx H' ρ' s' → EnvOk cx env sc ns Γ' ρ' s'.heap → Q .next s'
  | .ret v H' => ∀ s' ρ' v', FullS env ρ h ρ' s'.heap → Rel cx H' ρ' s' → (VR cx ρ' s'.heap v v' ∧ EnvSt cx env sc ρ' s'.heap) → Q (.ret v') s'
  | .exc c Γ' H' => ∀ e s' ρ', FullS env ρ h ρ' s'.heap → Rel cx H' ρ' s' → EnvOk cx env sc ns Γ' ρ' s'.heap → Flying cx ρ' h s'.heap c e → E e s'
theorem SimSK.ofPost {r : ResS} {T : (Flow → Shared → Prop) → (Value → Shared → Prop) → Shared → Prop} (k : ∀ Q E, r ≠ .bad → PostS cx env sc ns ρ s.heap r Q E → T Q E s) : SimSK cx env sc ns r T ρ s := by
  cases r with
  | bad => trivial
  | next Γ' H' => exact k _ _ (fun q => by cases q) fun s' ρ' F R e => ⟨rfl, ρ', F, R, e⟩
  | ret v H' => exact k _ _ (fun q => by cases q) fun s' ρ' v' F R e => ⟨v', ρ', rfl, F, R, e⟩
  | exc c Γ' H' => exact k _ _ (fun q => by cases q) fun e s' ρ' F R e' fl => ⟨ρ', F, R, e', fl⟩
theorem SimSAt.toPost {r : ResS} {t : Sem Flow} {Q : Flow → Shared → Prop} {E : Value → Shared → Prop} (x : SimSAt cx A env sc ns r t ρ s) (nb : r ≠ .bad) (p : PostS cx env sc ns ρ s.heap r Q E) : wpAny (model cx.prog cx.w) A t Q E s := by
  cases r with
  | bad => exact absurd rfl nb
  | next Γ' H' => exact wpAny_mono x (fun f s' ⟨h1, ρ', F, R, e⟩ => by subst h1; exact p s' ρ' F R e) fun _ _ q => q.elim
  | ret v H' => exact wpAny_mono x (fun f s' ⟨v', ρ', h1, F, R, e⟩ => by subst h1; exact p s' ρ' v' F R e) fun _ _ q => q.elim
  | exc c Γ' H' => exact wpAny_mono x (fun _ _ q => q.elim) fun e s' ⟨ρ', F, R, e', fl⟩ => p e s' ρ' F R e' fl
theorem PostS.after {r : ResS} {Q : Flow → Shared → Prop} {E : Value → Shared → Prop} {h h' : Heap} (p : PostS cx env sc ns ρ h r Q E) (F : FullS env ρ h ρ' h') : PostS cx env sc ns ρ' h' r Q E := by
  cases r with
  | bad => trivial
  | next Γ' H' => exact fun s' ρ'' F' R e => p s' ρ'' (F.trans F') R e
  | ret v H' => exact fun s' ρ'' v' F' R e => p s' ρ'' v' (F.trans F') R e
  | exc c Γ' H' => exact fun e s' ρ'' F' R e' fl => p e s' ρ'' (F.trans F') R e' (fl.older F.live)

/- objects that are new since h are turned -/
theorem FullS.fresh {h h1 h2 : Heap} {qs : List Addr} (F : FullS env ρ h ρ' h1) (hq : ∀ q ∈ qs, h.get? q = none) (hs : ∀ b o, b ∉ qs → ¬ Owned ρ' b → h1.get? b = some o → h2.get? b = some o) (lv : Live h1 h2) : FullS env ρ h ρ' h2 := by
  refine ⟨F.grow, fun b o e n n1 n2 => ?_, F.live.trans lv⟩
  obtain ⟨o', e', u⟩ := F.keep b o e n n1 n2
  refine ⟨o', hs b o' (fun w => ?_) (F.grow.not n e) e', u⟩
  rw [hq b w] at e; cases e
theorem EnvOk.priv {h h' : Heap} {qs : List Addr} (x : EnvOk cx env sc ns Γ ρ h) (hs : ∀ b o, b ∉ qs → ¬ Owned ρ b → h.get? b = some o → h'.get? b = some o) (hq : ∀ q ∈ qs, ∃ o, h.get? q = some o ∧ IterO o) (st : Step ρ h ρ h') : EnvOk cx env sc ns Γ ρ h' := by
  have nl : env.locals ∉ qs := fun w => by obtain ⟨o, e, i⟩ := hq _ w; exact x.st.notLoc e i.notDict rfl
  have nc : ∀ y c, env.cells.lookup y = some c → c ∉ qs := fun y c hc w => by obtain ⟨o, e, i⟩ := hq _ w; exact x.st.notCell e i.notCell y hc
  have kl : ∀ o, h.get? env.locals = some o → ∃ o', h'.get? env.locals = some o' ∧ o'.data = o.data := fun o e => ⟨o, hs _ o nl x.st.locN e, rfl⟩
  have kc : ∀ y c, env.cells.lookup y = some c → ∀ o, h.get? c = some o → ∃ o', h'.get? c = some o' ∧ o'.data = o.data := fun y c hc o e => ⟨o, hs _ o (nc y c hc) (x.st.cells y c hc).2.1 e, rfl⟩
  obtain ⟨m, hm⟩ := x.st.loc
  refine ⟨⟨x.st.fn, x.st.glob, x.st.blt, x.st.kinds, ⟨m, Heap_Ns_keep hm kl⟩, x.st.locN, x.st.locB, fun y c hc => ?_, x.st.hasCell, x.st.apart⟩, x.len, fun i y mv hi hm => ?_⟩
  · obtain ⟨⟨v, hv⟩, a, b⟩ := x.st.cells y c hc
    exact ⟨⟨v, IsCell_keep hv (kc y c hc)⟩, a, b⟩
  · obtain ⟨v, hv, r⟩ := x.vals i y mv hi hm
    refine ⟨v, ?_, r.step st⟩
    rcases hv with ⟨k, m, hm, e⟩ | ⟨k, c, hc, e⟩
    · exact .inl ⟨k, m, Heap_Ns_keep hm kl, e⟩
    · exact .inr ⟨k, c, hc, IsCell_keep e (kc y c hc)⟩

/- how a loop's items come -/
structure Walk (cx : Cx) (A : Around) (it : Value) (target : Expr) (xs : List Val) (ck : Hp → Bool) where
  Ok : Nat → Rho → Heap → Prop
  priv : List Addr
  obj : ∀ {i ρ h}, Ok i ρ h → ∀ q ∈ priv, (∃ o, h.get? q = some o ∧ IterO o) ∧ ¬ Owned ρ q
  step : ∀ {i ρ h ρ' h'}, Ok i ρ h → Step ρ h ρ' h' → (∀ q ∈ priv, (∀ o, h.get? q = some o → h'.get? q = some o) ∧ ¬ Owned ρ' q) → Ok i ρ' h'
  item : ∀ {i : Nat} {ρ : Rho} {H : Hp} {s : Shared} {m : Val} {Q : Value → Shared → Prop} {E E' : Value → Shared → Prop} {QQ : Option Value → Shared → Prop}, Rel cx H ρ s → Ok i ρ s.heap → ck H = true → xs[i]? = some m → (∀ q ∈ priv, cx.h₀.get? q = none) →
    (∀ v s₁, wpAny (model cx.prog cx.w) A (letOwnedTupleGo target it v) (fun _ s₂ => Q v s₂) E' s₁ → QQ (some v) s₁) →
    (∀ v h' tk, Rel cx H ρ { s with heap := h', toks := tk } → Step ρ s.heap ρ h' → (∀ b o, b ∉ priv → ¬ Owned ρ b → s.heap.get? b = some o → h'.get? b = some o) → Live s.heap h' → VR cx ρ h' m v → Ok (i + 1) ρ h' → Q v { s with heap := h', toks := tk }) →
    wpAny (model cx.prog cx.w) A (pyNext it) QQ E s
  fin : ∀ {i : Nat} {ρ : Rho} {H : Hp} {s : Shared} {Q : Option Value → Shared → Prop} {E : Value → Shared → Prop}, Rel cx H ρ s → Ok i ρ s.heap → ck H = true → xs[i]? = none → (∀ q ∈ priv, cx.h₀.get? q = none) →
    (∀ h' tk, Rel cx H ρ { s with heap := h', toks := tk } → Step ρ s.heap ρ h' → (∀ b o, b ∉ priv → ¬ Owned ρ b → s.heap.get? b = some o → h'.get? b = some o) → Q none { s with heap := h', toks := tk }) →
    wpAny (model cx.prog cx.w) A (pyNext it) Q E s

/- how a loop's target takes an item -/
noncomputable def BindOk (cx : Cx) (A : Around) (env : Env) (sc : Scope) (ns : List (Option Str)) (target : Expr) (bind : Val → Env' → Option Env') : Prop :=
  ∀ (Γ Γ' : Env') (H : Hp) (ρ : Rho) (s : Shared) (m : Val) (v : Value) (Q : Unit → Shared → Prop) (E : Value → Shared → Prop), bind m Γ = some Γ' → Rel cx H ρ s → EnvOk cx env sc ns Γ ρ s.heap → VR cx ρ s.heap m v →
    (∀ h' tk, FullS env ρ s.heap ρ h' → Rel cx H ρ { s with heap := h', toks := tk } → EnvOk cx env sc ns Γ' ρ h' → Q () { s with heap := h', toks := tk }) → wpAny (model cx.prog cx.w) A (assign target env v) Q E s

theorem bind_name {i : Nat} {y : Str} {py : Pos} (ha : Apart ns) (ho : isOwn sc ns i y = true) : BindOk cx A env sc ns (.Name y py) (bind1 i) := by
  intro Γ Γ' H ρ s m v Q E hb R e0 vr k
  cases hb
  exact wpAny_assign_Name (store_var e0.len ha R e0 ho vr fun h' tk F R' e' _ => k h' tk F R' e')

/- an exception that comes out of a loop -/
theorem loop_raise {H : Hp} {c : Nat} {e : Value} {h : Heap} {ρ₀ : Rho} {E : Value → Shared → Prop} (hfr : A.frames = some (env :: l)) (R : Rel cx H ρ s) (fr : FramesOk cx (env :: l) ρ s.heap) (e0 : EnvOk cx env sc ns Γ ρ s.heap) (lb : Live cx.h₀ h) (F : FullS env ρ₀ h ρ s.heap) (fl : Flying cx ρ h s.heap c e)
    (k : ∀ s', FullS env ρ₀ h ρ s'.heap → Rel cx H ρ s' → EnvOk cx env sc ns Γ ρ s'.heap → Flying cx ρ h s'.heap c e → E e s') :
    notedBy (model cx.prog cx.w) A env (fun e s' => cameBackBy (model cx.prog cx.w) A env E e s') e s := by
  obtain ⟨_, L, _, hf, _⟩ := fr env (.head _)
  refine wp_note hfr hf fr R lb F.live fl fun h1 o1 fl1 => wp_back (s := { s with heap := h1 }) lb fl1 fun h2 o2 fl2 => ?_
  have o := o1.trans o2
  exact k { s with heap := h2 } (o.fullS F) (o.rel R) (o.envK e0) fl2.to

theorem sim_loop {it : Value} {target : Expr} {xs : List Val} {ck : Hp → Bool} {bind : Val → Env' → Option Env'} {body : MSs} {stmts : List Stmt} {ρ₁ : Rho} {s₁ : Shared} (W : Walk cx A it target xs ck) (hfr : A.frames = some (env :: l)) (hB : BindOk cx A env sc ns target bind)
    (hb : SimS cx A (env :: l) env sc ns (execs stmts env) (execSs cx.T Φ body))
    (e1 : EnvOk cx env sc ns Γ ρ₁ s₁.heap) (fr : FramesOk cx (env :: l) ρ₁ s₁.heap) (lvB : Live cx.h₀ s₁.heap) (hpriv : ∀ q ∈ W.priv, s₁.heap.get? q = none)
    {s : Shared} {H : Hp} {ρ : Rho} (F0 : FullS env ρ₁ s₁.heap ρ s.heap) (R0 : Rel cx H ρ s) (e0 : EnvOk cx env sc ns Γ ρ s.heap) (ok : W.Ok 0 ρ s.heap) {Q : Flow → Shared → Prop} {E : Value → Shared → Prop}
    (nb : eachL ck bind (execSs cx.T Φ body) xs Γ H ≠ .bad) (p : PostS cx env sc ns ρ₁ s₁.heap (eachL ck bind (execSs cx.T Φ body) xs Γ H) Q E) :
    codeAny (model cx.prog cx.w) A (.forLoop target it stmts [] env) (fun r s' => match r with | .ok f => Q f s' | .error e => cameBackBy (model cx.prog cx.w) A env E e s') s := by
  generalize hres : eachL ck bind (execSs cx.T Φ body) xs Γ H = res at nb p
  refine codeAny_forLoop_any (fun n s => ∃ i Γ H ρ, FullS env ρ₁ s₁.heap ρ s.heap ∧ Rel cx H ρ s ∧ EnvOk cx env sc ns Γ ρ s.heap ∧ W.Ok i ρ s.heap ∧ i ≤ xs.length ∧ n = xs.length + 1 - i ∧ eachL ck bind (execSs cx.T Φ body) (xs.drop i) Γ H = res) ?_ (xs.length + 1)
    ⟨0, Γ, H, ρ, F0, R0, e0, ok, Nat.zero_le _, rfl, hres⟩
  have privB : ∀ q ∈ W.priv, cx.h₀.get? q = none := fun q hq => lvB.none (hpriv q hq)
  clear F0 R0 e0 ok hres
  rintro n s ⟨i, Γ, H, ρ, F, R, e0, ok, hi, rfl, hr⟩
  cases hx : xs[i]? with
  | none =>
    rw [List.drop_eq_nil_of_le (List.getElem?_eq_none_iff.mp hx)] at hr
    unfold eachL at hr
    by_cases ckh : ck H = true
    · rw [if_pos ckh] at hr
      subst hr
      refine W.fin R ok ckh hx privB fun h' tk R' st ex => ?_
      refine wpAny_execs_nil ?_
      have e' : EnvOk cx env sc ns Γ ρ h' := e0.priv ex (fun q hq => (W.obj ok q hq).1) st
      have F' : FullS env ρ₁ s₁.heap ρ h' := by
        refine ⟨F.grow, fun b o e n n1 n2 => ?_, fun b o e => ?_⟩
        · obtain ⟨o', eo', u⟩ := F.keep b o e n n1 n2
          exact ⟨o', ex b o' (fun w => by rw [hpriv b w] at e; cases e) (F.grow.not n e) eo', u⟩
        · by_cases ow : Owned ρ b
          · exact R'.owned_lt ow
          · obtain ⟨o', eo'⟩ := F.live b o e
            exact ⟨o', ex b o' (fun w => by rw [hpriv b w] at e; cases e) ow eo'⟩
      exact p _ ρ F' R' e'
    · rw [if_neg ckh] at hr; exact absurd hr.symm nb
  | some m =>
    have lt : i < xs.length := (List.getElem?_eq_some_iff.mp hx).1
    have hdrop : xs.drop i = m :: xs.drop (i + 1) := by
      rw [List.drop_eq_getElem_cons lt]
      rw [List.getElem?_eq_getElem lt] at hx
      cases hx; rfl
    rw [hdrop] at hr
    unfold eachL at hr
    by_cases ckh : ck H = true
    · rw [if_pos ckh] at hr
      cases hbd : bind m Γ with
      | none => rw [hbd] at hr; exact absurd hr.symm nb
      | some Γ1 =>
        rw [hbd] at hr
        dsimp only at hr
        refine W.item R ok ckh hx privB (fun v s₁ h => h) fun v h' tk R' st ex lv vr ok' => ?_
        · -- what comes behind the item
          have e' : EnvOk cx env sc ns Γ ρ h' := e0.priv ex (fun q hq => (W.obj ok q hq).1) st
          have F' : FullS env ρ₁ s₁.heap ρ h' := F.fresh hpriv ex lv
          refine hB Γ Γ1 H ρ { s with heap := h', toks := tk } m v _ _ hbd R' e' vr fun h2 tk2 F2 R2 e2 => ?_
          have F12 : FullS env ρ₁ s₁.heap ρ h2 := F'.trans F2
          have priv2 : ∀ q ∈ W.priv, (∀ o, h'.get? q = some o → h2.get? q = some o) ∧ ¬ Owned ρ q := fun q hq => by
            obtain ⟨⟨o, eo, io⟩, no⟩ := W.obj ok' q hq
            refine ⟨fun o2 eo2 => ?_, no⟩
            rw [eo] at eo2; cases eo2
            obtain ⟨o3, eo3, u⟩ := F2.keep q o eo no (e'.st.notLoc eo io.notDict) (e'.st.notCell eo io.notCell)
            rw [eo3, u.exact io.notDict]
          have ok2 : W.Ok (i + 1) ρ h2 := W.step ok' (FullS.step e'.st F2) priv2
          have fr2 : FramesOk cx (env :: l) ρ h2 := fr.stmt F12 e1.st e2.st
          have B := hb Γ1 H ρ { s with heap := h2, toks := tk2 } R2 e2 fr2
          cases hbody : execSs cx.T Φ body Γ1 H with
          | bad => rw [hbody] at hr; exact absurd hr.symm nb
          | next Γ3 H3 =>
            rw [hbody] at hr B
            dsimp only [thenS] at hr
            refine wpAny_mono B (fun f s3 q => ?_) fun _ _ q => q.elim
            obtain ⟨rfl, ρ3, F3, R3, e3⟩ := q
            refine ⟨xs.length + 1 - (i + 1), by omega, i + 1, Γ3, H3, ρ3, F12.trans F3, R3, e3, ?_, lt, rfl, hr⟩
            refine W.step ok2 (FullS.step e2.st F3) fun q hq => ?_
            obtain ⟨⟨o, eo, io⟩, no⟩ := W.obj ok2 q hq
            refine ⟨fun o2 eo2 => ?_, F3.grow.not no eo⟩
            rw [eo] at eo2; cases eo2
            obtain ⟨o3, eo3, u⟩ := F3.keep q o eo no (e2.st.notLoc eo io.notDict) (e2.st.notCell eo io.notCell)
            rw [eo3, u.exact io.notDict]
          | ret v3 H3 =>
            rw [hbody] at hr B
            dsimp only [thenS] at hr
            subst hr
            refine wpAny_mono B (fun f s3 q => ?_) fun _ _ q => q.elim
            obtain ⟨v', ρ3, rfl, F3, R3, vr3⟩ := q
            exact p s3 ρ3 v' (F12.trans F3) R3 vr3
          | exc c3 Γ3 H3 =>
            rw [hbody] at hr B
            dsimp only [thenS] at hr
            subst hr
            refine wpAny_mono B (fun _ _ q => q.elim) fun e s3 ⟨ρ3, F3, R3, e3, fl⟩ => ?_
            exact loop_raise hfr R3 (fr.stmt (F12.trans F3) e1.st e3.st) e3 lvB (F12.trans F3) (fl.older F12.live) fun s4 F4 R4 e4 fl4 => p e s4 ρ3 F4 R4 e4 fl4
    · rw [if_neg ckh] at hr; exact absurd hr.symm nb

/- the plain iterators -/
noncomputable def plainWalk (hh : A.handled = none) (xs : List Val) (I : Addr) (src : Option Nat) (y : Str) (py : Pos) : Walk cx A (.ref I) (.Name y py) xs (chk src xs) where
  Ok i ρ h := ItOk cx xs I i ρ h src ∧ ¬ Owned ρ I
  priv := [I]
  obj := fun ⟨h1, h2⟩ q hq => by rw [List.mem_singleton.mp hq]; exact ⟨h1.obj, h2⟩
  step := fun ⟨h1, h2⟩ st k => ⟨h1.step st (k I (.head _)).1, (k I (.head _)).2⟩
  item := by
    intro i ρ H s m Q E E' QQ R ⟨ok, no⟩ ck hx hb qq k
    obtain ⟨o, e, io⟩ := ok.obj
    refine iter_item R ok ck hx fun v h' tk hs hl kk => qq v _ ?_
    obtain ⟨o', e'⟩ := hl
    have st : Step ρ s.heap ρ h' := Step.but e' e hs io.not.1 io.not.2
    obtain ⟨vr, ok'⟩ := kk st
    refine wpAny_pure (k v h' tk (R.but e' e hs io.not.1 io.not.2 no (hb I (.head _))) st (fun b o nb _ eb => by rw [hs.2 b (fun w => nb (w ▸ .head _))]; exact eb) (SameBut.live hs e') vr ⟨ok', no⟩)
  fin := by
    intro i ρ H s Q E R ⟨ok, no⟩ ck hx hb k
    obtain ⟨o, e, io⟩ := ok.obj
    refine iter_end hh R ok ck hx fun h' tk he => ?_
    exact k h' tk (R.ext e he io.not.1 io.not.2 no (hb I (.head _))) (Step.ext e he io.not.1 io.not.2) fun b o nb _ eb => he b o (fun w => nb (w ▸ .head _)) eb

theorem cameBack_mono {E E' : Value → Shared → Prop} {e : Value} {M : Model} (h : cameBackBy M A env E e s) (k : ∀ e s, E e s → E' e s) : cameBackBy M A env E' e s := wpAny_mono h (fun _ _ => k _ _) k

theorem sim_each {i : Nat} {it : ME} {body : MSs} {y : Str} {x : Expr} {stmts : List Stmt} {py pos : Pos} (hh : A.handled = none) (hfr : A.frames = some (env :: l)) (ha : Apart ns) (ho : isOwn sc ns i y = true) (hn : notSet x = true)
    (hx : ∀ Γ : Env', Γ.length = ns.length → EOk cx A ((Amb.env cx env sc ns Γ).and (Amb.frames cx (env :: l))) Φ env Γ it x) (hb : SimS cx A (env :: l) env sc ns (execs stmts env) (execSs cx.T Φ body)) :
    SimS cx A (env :: l) env sc ns (exec (.For (.Name y py) x stmts [] pos) env) (execS cx.T Φ (.each i it body)) := by
  intro Γ H ρ s R e0 fr
  rw [ex_each]
  refine SimSK.to ?_
  refine SimSAt.bindK (K := fun xv Q E s => wpAny (model cx.prog cx.w) A (pyIter xv) (fun it s₂ => codeAny (model cx.prog cx.w) A (.forLoop (.Name y py) it stmts [] env) (fun r s' => match r with | .ok f => Q f s' | .error e => cameBackBy (model cx.prog cx.w) A env E e s') s₂) E s) e0 ((hx Γ e0.len).val H ρ s R ⟨e0, fr⟩) ?_ ?_ ?_
  · intro v xv H1 ρ1 s1 _ F1 R1 e1 vr
    refine SimSK.look fun pr hp => ?_
    obtain ⟨xs, src⟩ := pr
    refine SimSK.ofPost fun Q E nb p => ?_
    refine iter_start R1 vr hp fun o go it0 => ?_
    have F2 : Full ρ1 s1.heap ρ1 (s1.heap.push o) := Full.push _ _ _
    exact sim_loop (plainWalk hh xs s1.heap.objs.size src y py) hfr (bind_name ha ho) hb e1 ((Amb.frames cx (env :: l)).st _ _ _ _ fr F1) (fun b o e => ⟨o, R1.base b o e⟩) (fun q hq => by rw [List.mem_singleton.mp hq]; exact fresh_none _) F2.toS (R1.push o s1.toks) (e1.full F2) ⟨it0, R1.fresh_not (fresh_none _)⟩ nb p
  · intro xv Q E Q' E' s h k1 k2
    exact wpAny_mono h (fun it s₂ h2 => codeAny_mono h2 fun r s' hr => by
      cases r with
      | ok f => exact k1 _ _ hr
      | error e => exact cameBack_mono hr k2) k2
  · intro Q E h
    exact wpAny_For h (fun xv => foldedSet_of hn env xv)
end
end Mine

-- part MFor
namespace Mine
open PySem
section
variable {cx : Cx} {N : Names} {A : Around} {Φ : Funs} {l : List Env} {d : Nat} {env : Env} {sc : Scope} {ns : List (Option Str)} {Γ : Env'} {H : Hp} {ρ ρ' : Rho} {s : Shared}

set_option tactic.hygienic true in
theorem listOf_eq {v : Val} {H : Hp} {xs : List Val} {l : Nat} (h : listOf v H = some (xs, l)) : v = .loc l ∧ H[l]? = some (.list xs) := by
  unfold listOf at h
  split at h
  · split at h
    · rename_i hl; cases h; exact ⟨rfl, hl⟩
    · cases h
  · cases h
theorem zip_mem : (("zip" : Str), Value.type "zip") ∈ bltTab := by
  unfold bltTab
  repeat (first | exact List.Mem.head _ | apply List.Mem.tail)
theorem enum_mem : (("enumerate" : Str), Value.type "enumerate") ∈ bltTab := by
  unfold bltTab
  repeat (first | exact List.Mem.head _ | apply List.Mem.tail)

noncomputable abbrev loopK (cx : Cx) (A : Around) (env : Env) (target : Expr) (stmts : List Stmt) (zv : Value) : (Flow → Shared → Prop) → (Value → Shared → Prop) → Shared → Prop := fun Q E s =>
  wpAny (model cx.prog cx.w) A (pyIter zv) (fun it s₂ => codeAny (model cx.prog cx.w) A (.forLoop target it stmts [] env) (fun r s' => match r with | .ok f => Q f s' | .error e => cameBackBy (model cx.prog cx.w) A env E e s') s₂) E s
theorem loopK_mono {target : Expr} {stmts : List Stmt} {zv : Value} : MonoK (loopK cx A env target stmts zv) := by
  intro Q E Q' E' s h k1 k2
  exact wpAny_mono h (fun it s₂ h2 => codeAny_mono h2 fun r s' hr => by
    cases r with
    | ok f => exact k1 _ _ hr
    | error e => exact cameBack_mono hr k2) k2

set_option tactic.hygienic true in
theorem zipOf_eq {v w : Val} {H : Hp} {xs ys : List Val} {l1 l2 : Option Nat} (h : zipOf v w H = some ((xs, l1), (ys, l2))) : (v = .tup xs ∧ w = .tup ys ∧ l1 = none ∧ l2 = none) ∨ ∃ k1 k2, v = .loc k1 ∧ w = .loc k2 ∧ l1 = some k1 ∧ l2 = some k2 ∧ H[k1]? = some (.list xs) ∧ H[k2]? = some (.list ys) := by
  unfold zipOf at h
  split at h
  · split at h
    · cases h; exact .inl ⟨rfl, rfl, rfl, rfl⟩
    · cases h
  · split at h
    · rename_i p q h1 h2
      cases h
      obtain ⟨rfl, g1⟩ := listOf_eq (l := p.2) h1
      obtain ⟨rfl, g2⟩ := listOf_eq (l := q.2) h2
      exact .inr ⟨_, _, rfl, rfl, rfl, rfl, g1, g2⟩
    · cases h
noncomputable abbrev tit (a : Addr) : Obj := { cls := .type "tuple_iterator", data := .fields #[.ref a, .int 0 0] }
noncomputable abbrev zipT (h : Heap) (t1 t2 : Addr) : Heap := ((((h.push (tit t1)).push (tit t2)).push { cls := .type "tuple", data := .seq #[.ref h.objs.size, .ref (h.push (tit t1)).objs.size] }).push { cls := .type "tuple", data := .seq #[.none, .none] }).push
  { cls := .type "zip", data := .fields #[.none, .bool false, .bool false, .ref ((h.push (tit t1)).push (tit t2)).objs.size, .ref (((h.push (tit t1)).push (tit t2)).push { cls := .type "tuple", data := .seq #[.ref h.objs.size, .ref (h.push (tit t1)).objs.size] }).objs.size] }
theorem meets_zip_tup (t1 t2 : Addr) (xs ys : Array Value) :
    Meets (Builtin.«zip.__new__» ⟨[.type "zip", .ref t1, .ref t2], []⟩) (fun _ R s => s.heap.IsTuple t1 xs ∧ s.heap.IsTuple t2 ys ∧ R (.ok (.ret (.ref (s.heap.objs.size + 4)))) { s with heap := zipT s.heap t1 t2 }) :=
  .of_wp fun prog w A R s h => by
    obtain ⟨hp, g, d, tk, os⟩ := s; obtain ⟨hl1, hl2, h⟩ := h
    have hsub := sub_zip
    have hL1 : Heap.IsTuple (Shared.heap ⟨hp, g, d, tk, os⟩) t1 xs := hl1
    have hL2 : Heap.IsTuple (Shared.heap ⟨hp.push (tit t1), g, d, tk, os⟩) t2 ys := Heap.IsTuple.push hl2 _
    wp_walk using wpAny_pyIter_tuple hL1, wpAny_pyIter_tuple hL2
    refine ⟨_, rfl, ?_⟩
    have e : ((((hp.push (tit t1)).push (tit t2)).push { cls := .type "tuple", data := .seq #[.ref hp.objs.size, .ref (hp.push (tit t1)).objs.size] }).push { cls := .type "tuple", data := .seq #[.none, .none] }).objs.size = hp.objs.size + 4 := by simp only [Heap.size_push]
    rw [← e] at h
    exact h
/-! ## enumerate -/
theorem enumO {h : Heap} {e it : Addr} {i : Int} {f : Value} (x : IsEnum h e it i f) : ∃ o, h.get? e = some o ∧ IterO o := ⟨_, x, ⟨_, rfl⟩, _, rfl, by decide⟩
theorem countUp_get : ∀ {xs : List Val} {n i : Nat} {m : Val}, (countUp n xs)[i]? = some m → ∃ a, xs[i]? = some a ∧ m = .tup [.int ((n + i : Nat) : Int), a]
  | [], _, _, _, h => by simp [countUp] at h
  | a :: xs, n, 0, m, h => by simp [countUp] at h; exact ⟨a, rfl, by rw [← h]; rfl⟩
  | a :: xs, n, i + 1, m, h => by
    have h' : (countUp (n + 1) xs)[i]? = some m := by simpa [countUp] using h
    obtain ⟨a', h1, h2⟩ := countUp_get h'
    exact ⟨a', by simpa using h1, by rw [h2, show n + 1 + i = n + (i + 1) by omega]⟩
theorem countUp_none : ∀ {xs : List Val} {n i : Nat}, (countUp n xs)[i]? = none → xs[i]? = none
  | [], _, _, _ => by simp
  | a :: xs, n, 0, h => by simp [countUp] at h
  | a :: xs, n, i + 1, h => by
    have h' : (countUp (n + 1) xs)[i]? = none := by simpa [countUp] using h
    simpa using countUp_none h'

structure EnOk (cx : Cx) (xs : List Val) (l1 : Nat) (e it : Addr) (i : Nat) (ρ : Rho) (h : Heap) : Prop where
  en : ∃ old, IsEnum h e it i old
  it1 : ∃ p, ρ[l1]? = some p ∧ h.IsListIter it p.1 i
  no : ¬ Owned ρ e ∧ ¬ Owned ρ it

/-! ## a list of pairs -/
noncomputable def pairWalk (hh : A.handled = none) (xs : List Val) (I : Addr) (l1 : Nat) (elts : List Expr) (k : Nat) (pt : Pos) : Walk cx A (.ref I) (.Tuple elts k pt) xs (chk (some l1) xs) where
  Ok i ρ h := ItOk cx xs I i ρ h (some l1) ∧ ¬ Owned ρ I
  priv := [I]
  obj := fun ⟨h1, h2⟩ q hq => by rw [List.mem_singleton.mp hq]; exact ⟨h1.obj, h2⟩
  step := fun ⟨h1, h2⟩ st k => ⟨h1.step st (k I (.head _)).1, (k I (.head _)).2⟩
  item := by
    intro i ρ H s m Q E E' QQ R ⟨ok, no⟩ ck hx hb qq k
    obtain ⟨o, e, io⟩ := ok.obj
    refine iter_item R ok ck hx fun v h' tk hs hl kk => qq v _ ?_
    obtain ⟨o', e'⟩ := hl
    have st : Step ρ s.heap ρ h' := Step.but e' e hs io.not.1 io.not.2
    obtain ⟨vr, ok'⟩ := kk st
    have done := k v h' tk (R.but e' e hs io.not.1 io.not.2 no (hb I (.head _))) st (fun b o nb _ eb => by rw [hs.2 b (fun w => nb (w ▸ .head _))]; exact eb) (SameBut.live hs e') vr ⟨ok', no⟩
    cases ok' with
    | list hp hi =>
      cases v with
      | ref T => exact wpAny_letOwnedTupleGo_listiter hi done
      | _ => exact wpAny_pure done
  fin := by
    intro i ρ H s Q E R ⟨ok, no⟩ ck hx hb k
    obtain ⟨o, e, io⟩ := ok.obj
    refine iter_end hh R ok ck hx fun h' tk he => ?_
    exact k h' tk (R.ext e he io.not.1 io.not.2 no (hb I (.head _))) (Step.ext e he io.not.1 io.not.2) fun b o nb _ eb => he b o (fun w => nb (w ▸ .head _)) eb

end
end Mine

-- part MAssign
namespace Mine
open PySem
section
variable {cx : Cx} {N : Names} {A : Around} {Φ : Funs} {l : List Env} {d : Nat} {env : Env} {sc csc : Scope} {ns : List (Option Str)} {Γ : Env'} {H : Hp} {ρ ρ' : Rho} {s : Shared}

theorem swaps_not {m : ME} {x : Expr} {t : Option Expr} {ln : Nat} (h : ck N sc ns m x = true) (hm : ∀ a b c, m ≠ .comp a b c) : swapsWith x t ln env = pure false := by
  have z := ck_head h
  have hc : isComp m = false := by cases m <;> first | rfl | exact absurd rfl (hm _ _ _)
  rw [hc] at z
  cases x <;> first | rfl | cases z

theorem swaps_name {x : Expr} {y : Str} {py : Pos} {ln : Nat} : swapsWith x (some (.Name y py)) ln env = pure true ∨ swapsWith x (some (.Name y py)) ln env = pure false := by
  have : ∃ b, swapsWith x (some (.Name y py)) ln env = pure b := by cases x <;> exact ⟨_, rfl⟩
  obtain ⟨b, e⟩ := this
  cases b
  · exact .inr e
  · exact .inl e

theorem sim_assign_plain {i : Nat} {m : ME} {y : Str} {x : Expr} {py pos : Pos} (ha : Apart ns) (ho : isOwn sc ns i y = true) (hs : swapsWith x (some (.Name y py)) pos.line env = pure false)
    (hx : ∀ Γ : Env', Γ.length = ns.length → EOk cx A ((Amb.env cx env sc ns Γ).and (Amb.frames cx l)) Φ env Γ m x) :
    SimS cx A l env sc ns (exec (.Assign [.Name y py] x pos) env) (execS cx.T Φ (.assign i m)) := by
  intro Γ H ρ s R e0 fr
  rw [ex_assign]
  refine SimSK.to (SimSAt.bindK (K := fun v Q E s => wpAny (model cx.prog cx.w) A (storeName env y v) (fun _ => Q .next) E s) e0 ((hx Γ e0.len).val H ρ s R ⟨e0, fr⟩) (fun b v H1 ρ1 s1 _ F1 R1 e1 vr => sk_assign ha R1 e1 ho vr) (fun _ => monoK_store) fun Q E h => wpAny_Assign_Name h hs)

theorem sim_assign_comp (hh : A.handled = none) {i : Nat} {elt it : ME} {cond : MEo} {e x : Expr} {t y : Str} {ifs : List Expr} {tp py cp pos : Pos} (ha : Apart ns) (ho : isOwn sc ns i y = true) (hs : swapsWith (.ListComp e [⟨.Name t tp, x, ifs, 0⟩] csc cp) (some (.Name y py)) pos.line env = pure true) (hi : notSet x = true) (hc : compOk sc csc t = true)
    (pt : CParts cx A Φ l csc (inner csc ns ++ [some t]) cond elt ifs e) (hx : ∀ Γ : Env', Γ.length = ns.length → EOk cx A ((Amb.env cx env sc ns Γ).and (Amb.frames cx l)) Φ env Γ it x) :
    SimS cx A l env sc ns (exec (.Assign [.Name y py] (.ListComp e [⟨.Name t tp, x, ifs, 0⟩] csc cp) pos) env) (execS cx.T Φ (.assign i (.comp elt it cond))) := by
  obtain ⟨c1, c2, c3⟩ := compOk_parts hc
  intro Γ H ρ s R e0 fr
  rw [ex_assign, comp_eval]
  have assoc : ∀ (m : M Val) (f : Val → M Val) (g : Val → Hp → ResS) (H : Hp), bndS (m.bnd f) Γ g H = bndS m Γ (fun v => bndS (f v) Γ g) H := by
    intro m f g H
    unfold bndS M.bnd
    cases m H <;> rfl
  rw [assoc]
  refine SimSK.to (SimSAt.bindK (K := fun xv Q E s => wpAny (model cx.prog cx.w) A (pyIter xv) (fun it s₂ => wpAny (model cx.prog cx.w) A (newList []) (fun acc s₃ => wpAny (model cx.prog cx.w) A (newFunctionEnv csc env.globals (cloOf env csc.names []) [] env.qual none .none (some env)) (fun cenv s₄ =>
      codeAny (model cx.prog cx.w) A (.compStart (.ListComp e [⟨.Name t tp, x, ifs, 0⟩] csc cp) 0 it acc { cenv with scope := relabel csc env }) (compPost (model cx.prog cx.w) A E (some (assign (.Name y py) env)) (fun _ s' => Q .next s') acc cenv.locals) s₄) E s₃) E s₂) E s) e0 ((hx Γ e0.len).val H ρ s R ⟨e0, fr⟩) ?_ ?_ ?_)
  · intro v xv H1 ρ1 s1 _ F1 R1 e1 vr
    rcases compRest_cases (T := cx.T) (Φ := Φ) (cond := cond) (elt := elt) (Γ := Γ) (v := v) (H := H1) with w | ⟨xs, src, ys, H₂, w1, w2, w3, w4⟩
    · unfold bndS; rw [w]; trivial
    · unfold bndS; rw [w4]
      refine comp_block hh hc ha e1.len pt R1 e1 ((Amb.frames cx l).st _ _ _ _ fr F1) vr w1 w2 w3 fun D C ρ' s' F' R' v' m' n' hC => ?_
      obtain ⟨m, hm⟩ := m'
      have e' := e1.full F'
      have lvB : Live cx.h₀ s1.heap := fun b o e => ⟨o, R1.base b o e⟩
      show wpAny (model cx.prog cx.w) A (assign (.Name y py) env (.ref D)) _ _ _
      refine wpAny_assign_Name (store_var e'.len ha R' e' ho v' fun h2 tk2 F2 R2 e2 hq => ?_)
      obtain ⟨q, oq, hqd, hqs, gq⟩ := hq
      have live : ∀ {b : Addr}, (∃ o, s1.heap.get? b = some o) → b ≠ C := fun ⟨o, eo⟩ w => by rw [w, hC] at eo; cases eo
      have locL : env.locals ≠ C := live (by obtain ⟨m, o, es, ep, e, _⟩ := e1.st.loc; exact ⟨o, e⟩)
      have celL : ∀ z c, env.cells.lookup z = some c → c ≠ C := fun z c hc => live (by obtain ⟨⟨v, o, e, _⟩, _⟩ := e1.st.cells z c hc; exact ⟨o, e⟩)
      have qC : C ≠ q := by
        rcases hqd with ⟨_, rfl⟩ | ⟨_, w⟩
        · exact locL.symm
        · exact (celL y q w).symm
      have hm2 : h2.Ns C m := Heap_Ns_keep hm fun o eo => ⟨o, by rw [hqs.2 C qC]; exact eo, rfl⟩
      obtain ⟨oC, gC, nf, nx⟩ := nsO_not hm2
      refine ⟨m, hm2, fun h3 hs3 => ?_⟩
      have st : Step ρ' h2 ρ' h3 := Step.ext gC hs3.extBut nf nx
      have FF : FullS env ρ1 s1.heap ρ' h2 := F'.toS.trans F2
      refine ⟨rfl, ρ', ?_, R2.ext (tk := tk2) gC hs3.extBut nf nx n' (lvB.none hC), e2.but hs3.extBut locL.symm (fun z w => celL z C w rfl) st⟩
      refine ⟨FF.grow, fun b o eb n n1 n2 => ?_, fun b o eb => ?_⟩
      · obtain ⟨o', e', u⟩ := FF.keep b o eb n n1 n2
        exact ⟨o', hs3.extBut b o' (live ⟨o, eb⟩) e', u⟩
      · obtain ⟨o', e'⟩ := FF.live b o eb
        exact ⟨o', hs3.extBut b o' (live ⟨o, eb⟩) e'⟩
  · intro xv Q E Q' E' s h k1 k2
    exact wpAny_mono h (fun it s₂ h2 => wpAny_mono h2 (fun acc s₃ h3 => wpAny_mono h3 (fun cenv s₄ h4 => codeAny_mono h4 fun r s' hr => compPost_mono hr (fun _ s => k1 _ s) k2) k2) k2) k2
  · intro Q E h
    rw [exec_Assign_Name_used _ _ _ _ hs]
    refine wpAny_bind (wpAny_standAt (wpAny_bind ?_))
    show wpAny _ A (do let _ ← comprehension (.ListComp e [⟨.Name t tp, x, ifs, 0⟩] csc cp) csc env _ (newList []) false (eval x env) (some (assign (.Name y py) env))) _ _ s
    refine wpAny_bind (wpAny_mono (wpAny_comprehension_free (use := some (assign (.Name y py) env)) (Q := fun _ s' => Q .next s') (g := ⟨.Name t tp, x, ifs, 0⟩) (gs := []) rfl (fun xv => foldedSet_of hi env xv)
      (closureFor_eq fun p' hp' hf => e0.st.hasCell p'.1 (by rcases (c3 p' hp').2 hf with w | w; exact .inl w; exact .inr w)) c1 (fun p' hp' hl => by rw [(c3 p' hp').1, hl]) h) (fun _ s' hq => wpAny_pure (wpAny_pure hq)) fun _ _ e => e)

theorem sim_assign (G : Ground cx N A Φ l d) {i : Nat} {m : ME} {y : Str} {x : Expr} {py pos : Pos} (ha : Apart ns) (ho : isOwn sc ns i y = true) (hm : ck N sc ns m x = true) :
    SimS cx A l env sc ns (exec (.Assign [.Name y py] x pos) env) (execS cx.T Φ (.assign i m)) := by
  rcases swaps_name (env := env) (x := x) (y := y) (py := py) (ln := pos.line) with hs | hs
  · by_cases hc : ∃ a b c, m = .comp a b c
    · obtain ⟨elt, it, cond, rfl⟩ := hc
      obtain ⟨el, t, px, i', ifs, csc, cp, rfl, h1, h2, h3, h4, h5⟩ := inv_comp hm
      exact sim_assign_comp G.room.hh ha ho hs h2 h3 ⟨fun cenv Γ' hΓ' => econd G cond ifs cenv csc _ Γ' h5 (inner_inj ha (compOk_parts h3).2.1) hΓ', fun cenv Γ' hΓ' => (eok G elt el cenv csc _ Γ' h4 (inner_inj ha (compOk_parts h3).2.1) hΓ').val⟩
        fun Γ hΓ => eok G it i' env sc ns Γ h1 ha hΓ
    · have := swaps_not (env := env) (t := some (.Name y py)) (ln := pos.line) hm fun a b c w => hc ⟨a, b, c, w⟩
      exact sim_assign_plain ha ho this fun Γ hΓ => eok G m x env sc ns Γ hm ha hΓ
  · exact sim_assign_plain ha ho hs fun Γ hΓ => eok G m x env sc ns Γ hm ha hΓ
end
end Mine

-- part MStore
namespace Mine
open PySem
section
variable {cx : Cx} {N : Names} {A : Around} {Φ : Funs} {l : List Env} {d : Nat} {env : Env} {sc : Scope} {ns : List (Option Str)} {Γ : Env'} {H : Hp} {ρ : Rho} {s : Shared}
theorem setattr_ok {v m : Val} {n : Nat} {u : Unit} {H' : Hp} (h : setattrV v n m H = .ok u H') : ∃ i c fs, v = .loc i ∧ H[i]? = some (.inst c fs) ∧ H' = H.set i (.inst c (fput fs n m)) := by
  unfold setattrV at h
  split at h
  · split at h
    · cases h; exact ⟨_, _, _, rfl, by assumption, rfl⟩
    · cases h
  · cases h
theorem setattr_noexc {v m : Val} {n c : Nat} {H' : Hp} (h : setattrV v n m H = .exc c H') : False := by
  unfold setattrV at h
  split at h
  · split at h <;> cases h
  · cases h
theorem swaps_attr {x p : Expr} {y : Str} {q : Pos} {ln : Nat} : swapsWith x (some (.Attribute p y q)) ln env = pure false := by cases x <;> rfl
theorem sim_setattr (G : Ground cx N A Φ l d) {o e : ME} {n : Nat} {p x : Expr} {y : Str} {q pos : Pos} (ha : Apart ns) (hx : ck N sc ns e x = true) (hp : ck N sc ns o p = true) (hn : hasNo N.attrs y n = true) :
    SimS cx A l env sc ns (exec (.Assign [.Attribute p y q] x pos) env) (execS cx.T Φ (.setattr o n e)) := by
  intro Γ H ρ s R e0 fr
  rw [ex_setattr]
  refine SimSK.to (SimSAt.bindK (K := fun v Q E s => wpAny (model cx.prog cx.w) A (eval p env) (fun ov s₂ => wpAny (model cx.prog cx.w) A (setAttr ov y v) (fun _ => Q .next) E s₂) E s) e0 ((eok G e x env sc ns Γ hx ha e0.len).val H ρ s R ⟨e0, fr⟩) ?_ ?_ fun Q E h => plainObj_wpAny_Assign_Attribute h swaps_attr)
  · intro b v H1 ρ1 s1 _ F1 R1 e1 vr
    refine SimSAt.bindK (K := fun ov Q E s => wpAny (model cx.prog cx.w) A (setAttr ov y v) (fun _ => Q .next) E s) e1 ((eok G o p env sc ns Γ hp ha e1.len).val H1 ρ1 s1 R1 ⟨e1, fr.full F1⟩) ?_ ?_ (fun Q E h => h)
    · intro b2 ov H2 ρ2 s2 _ F2 R2 e2 vo
      have vo' : VR cx ρ2 s2.heap b2 ov := vo
      unfold bndS
      cases hr : setattrV b2 n b H2 with
      | bad => trivial
      | exc c H3 => exact (setattr_noexc hr).elim
      | ok u H3 =>
        obtain ⟨i, c, fs, rfl, hi, rfl⟩ := setattr_ok hr
        obtain ⟨p1, hp1, rfl⟩ := vo'.loc_inv
        exact wp_setattr G.base.cls R2 hi hp1 (G.base.cls.attr y n (hasNo_eq hn)) (VR.step F2.step vr) fun s' F R' => ⟨rfl, ρ2, F.toS, R', e2.full F⟩
    · exact fun _ Q E Q' E' s h k1 k2 => wpAny_mono h (fun _ _ => k1 _ _) k2
  · exact fun _ Q E Q' E' s h k1 k2 => wpAny_mono h (fun _ _ h' => wpAny_mono h' (fun _ _ => k1 _ _) k2) k2
/-! ## while -/
end
end Mine

-- part MItem
namespace Mine
open PySem
section
variable {cx : Cx} {N : Names} {A : Around} {Φ : Funs} {l : List Env} {d : Nat} {env : Env} {sc : Scope} {ns : List (Option Str)} {Γ : Env'} {H : Hp} {ρ : Rho} {s : Shared}
set_option maxRecDepth 100000 in
/- an item of a list is stored; the object is known to the letter -/
theorem wp_setItem {a : Addr} {vs : List Value} {n : Nat} {k : Int} {t : Tok} {v : Value} {Q : Unit → Shared → Prop} {E : Value → Shared → Prop} (g : s.heap.get? a = some (listO vs n)) (h0 : 0 ≤ k) (hk : k < vs.length) (hf : k < 2 ^ 63)
    (hQ : Q () { s with heap := s.heap.update a (Obj.mapSeq (·.setIfInBounds k.toNat v)) }) : wpAny (model cx.prog cx.w) A (setItem (.ref a) (.int k t) v) Q E s := by
  have hl : s.heap.IsList a vs.toArray := ⟨_, g, rfl, n, rfl⟩
  unfold setItem
  try with_reducible refine wpAny_holding ?_
  first | refine wpAny_bind (wpAny_pure ?_) | skip
  refine wpAny_bind (wpAny_sequenceKey hl.typeIs (by decide) ?_)
  refine wpAny_bind (wpAny_callSpecial?_slot (name := Str.ofString "__setitem__") hl.typeIs slot_list_setitem (wpAny_call_entry slot_list_setitem hl.typeIs entry_list_setitem ?_ (args_list_setitem _ _ _)))
  show wpAny _ _ (Builtin.List.listSubscript? (.int k t) >>= _) _ _ s
  refine wpAny_bind (wpAny_listSubscript_int (fitsIndex_of h0 hf) ?_)
  clear hf
  obtain ⟨j, rfl⟩ := Int.eq_ofNat_of_zero_le h0
  have hj : j < vs.toArray.size := by simp only [List.size_toArray]; omega
  have hx' : vs.toArray[j]? = some vs.toArray[j] := Array.getElem?_eq_getElem hj
  show wpAny _ _ ((seqItemAt a j >>= fun r => pure (r.map (j, ·))) >>= _) _ _ s
  refine wpAny_bind (wpAny_bind (wpAny_seqItemAt g rfl (wpAny_pure ?_)))
  rw [hx']
  show wpAny _ _ (setSeqItemAt a j v >>= _) _ _ s
  refine wpAny_bind (wpAny_setSeqItemAt g rfl ?_)
  first
    | exact wpAny_bind (wpAny_pure (wpAny_pure ⟨.none, rfl, wpAny_pure hQ⟩))
    | exact wpAny_pure ⟨.none, rfl, wpAny_pure hQ⟩
theorem VRs.setArr {xs : List Val} {vs : List Value} {m : Val} {v : Value} {h : Heap} (r : VRs cx ρ h xs vs) (k : Nat) (a : VR cx ρ h m v) : VRs cx ρ h (xs.set k m) (vs.toArray.setIfInBounds k v).toList := by
  have : (vs.toArray.setIfInBounds k v).toList = vs.set k v := by simp
  rw [this]; exact r.set k a
set_option tactic.hygienic true in
theorem setitem_ok {o i m : Val} {u : Unit} {H' : Hp} (h : setitemV o i m H = .ok u H') : ∃ l, o = .loc l ∧ ((∃ xs k, H[l]? = some (.list xs) ∧ i = .int k ∧ 0 ≤ k ∧ k < xs.length ∧ H' = H.set l (.list (xs.set k.toNat m))) ∨
    ∃ es k, H[l]? = some (.dict es) ∧ keyOf i = some k ∧ es.length < lid ∧ H' = H.set l (.dict (dput es k m))) := by
  unfold setitemV at h
  split at h
  · rename_i l
    split at h
    · rename_i xs hl
      split at h
      · rename_i k
        by_cases q : 0 ≤ k ∧ k < xs.length
        · rw [if_pos q] at h; cases h; exact ⟨l, rfl, .inl ⟨xs, k, hl, rfl, q.1, q.2, rfl⟩⟩
        · rw [if_neg q] at h; cases h
      · cases h
    · rename_i es hl
      split at h
      · rename_i k hk
        by_cases q : es.length < lid
        · rw [if_pos q] at h; cases h; exact ⟨l, rfl, .inr ⟨es, k, hl, hk, q, rfl⟩⟩
        · rw [if_neg q] at h; cases h
      · cases h
    · cases h
  · cases h
theorem setitem_noexc {o i m : Val} {c : Nat} {H' : Hp} (h : setitemV o i m H = .exc c H') : False := by
  unfold setitemV at h
  split at h
  · split at h
    · split at h
      · split at h <;> cases h
      · cases h
    · split at h
      · split at h <;> cases h
      · cases h
    · cases h
  · cases h
/- an entry of a dict is stored -/
theorem wp_setDict (hu : A.units + 100 < cLine) (R : Rel cx H ρ s) {l : Nat} {p : Addr × Addr} {es : List (Key × Val)} {i m : Val} {k : Key} {iv v : Value} {Q : Unit → Shared → Prop} {E : Value → Shared → Prop} (hp : ρ[l]? = some p) (hl : H[l]? = some (.dict es)) (hk : keyOf i = some k) (q : es.length < lid)
    (xi : VR cx ρ s.heap i iv) (xm : VR cx ρ s.heap m v) (hQ : ∀ h' tk, Full ρ s.heap ρ h' → Rel cx (H.set l (.dict (dput es k m))) ρ { s with heap := h', toks := tk } → Q () { s with heap := h', toks := tk }) : wpAny (model cx.prog cx.w) A (setItem (.ref p.1) iv v) Q E s := by
  obtain ⟨xs, hpp, D, rr, z⟩ := R.dictAt hl hp
  obtain ⟨bb, rfl, hb, no⟩ := key_is xi hk
  refine wpAny_setItem_heap (knd := cellKind cx) (tupleKind_room_in1 (by omega)) hb D (fun h' hm hs => ?_) (by rw [rr.length]; exact z)
  obtain ⟨_, _, _, _, _, _, _, ks, nd⟩ := D
  rw [sizeLine_lid] at q
  obtain ⟨F, R'⟩ := dict_set (tk := s.toks + (cellKind cx).draws [k.1, k.2]) R hp hpp hm hs (stored_keys ks hb) (rr.put nd xm no) (Nat.le_trans (dput_length es k m) q)
  exact hQ h' _ F R'
theorem swaps_item {x p i : Expr} {q : Pos} {ln : Nat} : swapsWith x (some (.Subscript p i q)) ln env = pure false := by cases x <;> rfl
theorem sim_setitem (G : Ground cx N A Φ l d) {o i e : ME} {p j x : Expr} {q pos : Pos} (ha : Apart ns) (hx : ck N sc ns e x = true) (hp : ck N sc ns o p = true) (hi : ck N sc ns i j = true) :
    SimS cx A l env sc ns (exec (.Assign [.Subscript p j q] x pos) env) (execS cx.T Φ (.setitem o i e)) := by
  intro Γ H ρ s R e0 fr
  rw [ex_setitem]
  refine SimSK.to (SimSAt.bindK (K := fun v Q E s => wpAny (model cx.prog cx.w) A (eval p env) (fun ov s₂ => wpAny (model cx.prog cx.w) A (eval j env) (fun iv s₃ => wpAny (model cx.prog cx.w) A (setItem ov iv v) (fun _ => Q .next) E s₃) E s₂) E s) e0 ((eok G e x env sc ns Γ hx ha e0.len).val H ρ s R ⟨e0, fr⟩) ?_ ?_ fun Q E h => wpAny_Assign_Subscript h swaps_item)
  · intro b v H1 ρ1 s1 _ F1 R1 e1 vr
    refine SimSAt.bindK (K := fun ov Q E s => wpAny (model cx.prog cx.w) A (eval j env) (fun iv s₃ => wpAny (model cx.prog cx.w) A (setItem ov iv v) (fun _ => Q .next) E s₃) E s) e1 ((eok G o p env sc ns Γ hp ha e1.len).val H1 ρ1 s1 R1 ⟨e1, fr.full F1⟩) ?_ ?_ (fun Q E h => h)
    · intro b2 ov H2 ρ2 s2 _ F2 R2 e2 vo
      refine SimSAt.bindK (K := fun iv Q E s => wpAny (model cx.prog cx.w) A (setItem ov iv v) (fun _ => Q .next) E s) e2 ((eok G i j env sc ns Γ hi ha e2.len).val H2 ρ2 s2 R2 ⟨e2, (fr.full F1).full F2⟩) ?_ ?_ (fun Q E h => h)
      · intro b3 iv H3 ρ3 s3 _ F3 R3 e3 vi
        have vo' : VR cx ρ3 s3.heap b2 ov := VR.step F3.step vo
        have vi' : VR cx ρ3 s3.heap b3 iv := vi
        have vr' : VR cx ρ3 s3.heap b v := VR.step F3.step (VR.step F2.step vr)
        unfold bndS
        cases hr : setitemV b2 b3 b H3 with
        | bad => trivial
        | exc c H4 => exact (setitem_noexc hr).elim
        | ok u H4 =>
          obtain ⟨a, rfl, hs⟩ := setitem_ok hr
          obtain ⟨p1, hp1, rfl⟩ := vo'.loc_inv
          rcases hs with ⟨xs, k, hl, rfl, k0, k1, rfl⟩ | ⟨es, k, hl, hk, q, rfl⟩
          · obtain ⟨t, rfl⟩ := vi'.int_inv
            obtain ⟨vs, n, hpp, g, rr, z⟩ := R3.listAt hl hp1
            have z' := z
            rw [sizeLine_eq] at z'
            refine wp_setItem g k0 (by rw [← rr.length]; exact k1) (by omega) ?_
            obtain ⟨ρ', F, R', _⟩ := simAt_seq (b := .none) (v := .none) (ys := xs.set k.toNat b) R3 hp1 hpp g (fun w => w.setIfInBounds k.toNat v) (rr.setArr k.toNat vr') (by rw [List.length_set]; exact z) fun _ _ => .none
            exact ⟨rfl, ρ', F.toS, R', e3.full F⟩
          · exact wp_setDict G.u R3 hp1 hl hk q vi' vr' fun h' tk F R' => ⟨rfl, ρ3, F.toS, R', e3.full F⟩
      · exact fun _ Q E Q' E' s h k1 k2 => wpAny_mono h (fun _ _ => k1 _ _) k2
    · exact fun _ Q E Q' E' s h k1 k2 => wpAny_mono h (fun _ _ h' => wpAny_mono h' (fun _ _ => k1 _ _) k2) k2
  · exact fun _ Q E Q' E' s h k1 k2 => wpAny_mono h (fun _ _ h' => wpAny_mono h' (fun _ _ h2 => wpAny_mono h2 (fun _ _ => k1 _ _) k2) k2) k2
end
end Mine

-- part MExc
namespace Mine
open PySem
section
variable {cx : Cx} {N : Names} {A : Around} {Φ : Funs} {l : List Env} {d : Nat} {env : Env} {sc : Scope} {ns : List (Option Str)} {Γ : Env'} {H : Hp} {ρ ρ' : Rho} {s : Shared}
theorem sim_raise (G : Ground cx N A Φ l d) (ha : Apart ns) {c : Nat} {x msg : Str} {np cpos pos : Pos} {k : Nat} {mp : Pos} (hg : isGlob sc x = true) (hn : hasNo N.clss x c = true) (hck : ckEs N sc ns (.cons (.str msg) .nil) [.Constant (.str msg) k mp] = true) :
    SimS cx A l env sc ns (exec (.Raise (some (.Call (.Name x np) [.Constant (.str msg) k mp] [] cpos)) none pos) env) (execS cx.T Φ (.raise c msg)) := by
  intro Γ H ρ s R e0 fr
  rw [ex_raise]
  by_cases hi : ¬ cx.T.isExc c = true
  · rw [if_neg hi]; trivial
  have hi : cx.T.isExc c = true := Classical.not_not.mp hi
  rw [if_pos hi]
  obtain ⟨C, hC, ok⟩ := G.base.exc c hi
  obtain ⟨mg, mb, ng, nb, _, _, q, _⟩ := G.base.ns
  obtain ⟨Cv, hC', hx⟩ := q x c (hasNo_eq hn)
  rw [hC] at hC'; cases hC'
  obtain ⟨nm, qn, Nn, bs, bm, hdct, sn, sub, ab, col, dd, k0, k1, k2, k3, k5, mN, hCo, hNs, hin, tl, _⟩ := ok.is
  have y := eoks G (.cons (.str msg) .nil) [.Constant (.str msg) k mp] env sc ns Γ hck ha e0.len H ρ s R ⟨e0, fr⟩
  have ev : evalEs cx.T Φ (.cons (.str msg) .nil) Γ H = .ok [.str msg] H := rfl
  rw [ev] at y
  have pl := plainArgs_trees (env := env) cpos (ckEs_plain hck)
  refine wpAny_Raise_call_subT (C := C) (nm := nm) (q := qn) (N := Nn) (bs := bs) (hdct := hdct) (sn := sn) (sub := sub) (ab := ab) (col := col) (dd := dd) (k0 := k0) (k1 := k1) (k2 := k2) (k3 := k3) (k5 := k5) F.excBase_ValueError (mN := mN) (bm := bm) (tl.hasType (by decide)) G.room.hh (by rw [pl]; exact any_false _) hin ?_
  refine wp_glob R e0.st hg ng nb hx ⟨rfl, ?_⟩
  rw [pl]
  refine Calls.evalArgs_plain (wpAny_mono y (fun vs s' ⟨ρ', F, R', vrs⟩ => ?_) fun _ _ q => q.elim)
  refine ⟨rfl, by have := vrs.length; show vs.length ≤ _; rw [← this, sizeLine_eq]; show 1 ≤ 16777216; decide, R'.base _ _ hCo, hNs.keeps R'.base, tl.keeps R'.base, fun h' e m => ?_⟩
  have F' : Full ρ s.heap ρ' h' := F.trans (Full.more m.keeps)
  obtain ⟨t, ht, _, _⟩ := m.there
  exact ⟨ρ', F'.toS, R'.more (tk := s'.toks) m.keeps, e0.full F', e, C, _, rfl, hC, F.live.none m.new, ht, rfl, R'.fresh_not m.new, .inl rfl⟩
end
end Mine

-- part MCalm
namespace Mine
open PySem
/- the ground for such code -/
structure GroundC (cx : Cx) (N : Names) (A : Around) (Φ : Funs) (l : List Env) (K : Nat → Bool) : Prop where
  base : Base cx N
  u : A.units + 100 < cLine
  funs : ∀ (f : Nat) (a : Addr) (args : List Val) (vals : List Value), K f = true → cx.fns[f]? = some a → Sim cx A ((Amb.vrs cx args vals).and (Amb.frames cx l)) (call (.ref a) vals) (Φ f args) (Amb.vr cx)
  defs : ∀ (f : Nat) (a : Addr), cx.fns[f]? = some a → ∃ g, cx.T.funs[f]? = some g
section
variable {cx : Cx} {N : Names} {A : Around} {Φ : Funs} {l : List Env} {d : Nat} {K : Nat → Bool} {env : Env} {sc : Scope} {ns : List (Option Str)} {Γ : Env'} {H : Hp} {ρ ρ' : Rho} {s : Shared}
mutual
theorem eokC (G : GroundC cx N A Φ l K) : ∀ (m : ME) (e : Expr) (env : Env) (sc : Scope) (ns : List (Option Str)) (Γ : Env'), calmE K m = true → ck N sc ns m e = true → Apart ns → Γ.length = ns.length → EOk cx A ((Amb.env cx env sc ns Γ).and (Amb.frames cx l)) Φ env Γ m e
  | .none, e, env, sc, ns, Γ, c, h, _, _ => by
    obtain ⟨k, pos, rfl⟩ := inv_none h
    refine EOk.of (fun H ρ s R p => ?_) rfl
    rw [ev_none]
    exact simAt_pure R fun Q E k => wpAny_Constant_none (k _ s.toks .none)
  | .bool b, e, env, sc, ns, Γ, c, h, _, _ => by
    obtain ⟨k, pos, rfl⟩ := inv_bool h
    refine EOk.of (fun H ρ s R p => ?_) rfl
    rw [ev_bool]
    exact simAt_pure R fun Q E k => wpAny_Constant_bool (k _ s.toks (.bool b))
  | .int i, e, env, sc, ns, Γ, c, h, _, _ => by
    obtain ⟨k, pos, rfl⟩ := inv_int h
    refine EOk.of (fun H ρ s R p => ?_) rfl
    rw [ev_int]
    exact simAt_pure R fun Q E k => wpAny_Constant_int (k _ _ (.int _ _))
  | .str v, e, env, sc, ns, Γ, c, h, _, _ => by
    obtain ⟨k, pos, rfl, z⟩ := inv_str h
    refine EOk.of (fun H ρ s R p => ?_) rfl
    rw [ev_str]
    exact simAt_pure R fun Q E k => wpAny_Constant_str (k _ _ (.str _ _ (by rw [sizeLine_eq]; omega)))
  | .var i, e, env, sc, ns, Γ, c, h, _, _ => by
    obtain ⟨x, pos, rfl, h1⟩ := inv_var h
    exact EOk.of (sim_var h1 Φ).and1 rfl
  | .bin op a b, e, env, sc, ns, Γ, c, h, ha, hΓ => by
    obtain ⟨x, o, y, pos, rfl, h1, h2, h3⟩ := inv_bin h
    exact eok_bin h1 (eokC G a x env sc ns Γ (an1 c) h2 ha hΓ) (eokC G b y env sc ns Γ (an2 c) h3 ha hΓ)
  | .cmp op a b, e, env, sc, ns, Γ, c, h, ha, hΓ => by
    obtain ⟨x, y, pos, rfl, h1, h2, h3⟩ := inv_cmp h
    exact eok_cmp G.u h3 (eokC G a x env sc ns Γ (an1 c) h1 ha hΓ) (eokC G b y env sc ns Γ (an2 c) h2 ha hΓ)
  | .call f es, e, env, sc, ns, Γ, c, h, ha, hΓ => by
    obtain ⟨x, np, xs, pos, rfl, h1, h2, h3, h4⟩ := inv_call h
    refine EOk.of ?_ rfl
    obtain ⟨mg, mb, ng, nb, q, _⟩ := G.base.ns
    obtain ⟨a, ha', _⟩ := q x f (hasNo_eq h2)
    exact sim_callU G.base (fun a args vals h => G.funs f a args vals (an1 c) h) h1 h2 (G.defs f a ha') h3 (eoksC G es xs env sc ns Γ (an2 c) h3 ha hΓ)
  | .bm a m es, e, env, sc, ns, Γ, c, h, ha, hΓ => by
    obtain ⟨o, y, apos, xs, pos, rfl, h1, rfl, h3, h4, h5, h6⟩ := inv_bm h
    refine EOk.of ?_ rfl
    exact sim_bm h5 (ckEs_plain h4) (by rw [← h3]; cases m <;> decide) (fun e => ckEs_nil (e ▸ h4)) h6 (eokC G a o env sc ns Γ (an2 (an1 c)) h1 ha hΓ).val (eoksC G es xs env sc ns Γ (an2 c) h4 ha hΓ)
      (fun b v ms vs hl => bm_one G.u m b v ms vs (bm_len h3 hl)) (fun _ _ _ e => evalEs_length h4 e)
  | .isinst a t, e, env, sc, ns, Γ, c, h, ha, hΓ => by
    obtain ⟨f, np, x, y, yp, pos, rfl, h1, h2, h3, h4, h5⟩ := inv_isinst h
    have z := eokC G a x env sc ns Γ c h4 ha hΓ
    cases t with
    | cls c => exact eok_isiC G.base h1 h2 h3 h5 (ck_notStar h4) z
    | int => exact eok_isi G.base (fun c => by intro q; cases q) h1 h2 h3 (of_decide_eq_true h5) (ck_notStar h4) z
    | bool => exact eok_isi G.base (fun c => by intro q; cases q) h1 h2 h3 (of_decide_eq_true h5) (ck_notStar h4) z
    | str => exact eok_isi G.base (fun c => by intro q; cases q) h1 h2 h3 (of_decide_eq_true h5) (ck_notStar h4) z
    | tuple => exact eok_isi G.base (fun c => by intro q; cases q) h1 h2 h3 (of_decide_eq_true h5) (ck_notStar h4) z
    | list => exact eok_isi G.base (fun c => by intro q; cases q) h1 h2 h3 (of_decide_eq_true h5) (ck_notStar h4) z
  | .glob _, _, _, _, _, _, c, _, _, _ => by cases c
  | .neg _, _, _, _, _, _, c, _, _, _ => by cases c
  | .not _, _, _, _, _, _, c, _, _, _ => by cases c
  | .and _ _, _, _, _, _, _, c, _, _, _ => by cases c
  | .or _ _, _, _, _, _, _, c, _, _, _ => by cases c
  | .cmp2 _ _ _ _ _, _, _, _, _, _, c, _, _, _ => by cases c
  | .sub _ _, _, _, _, _, _, c, _, _, _ => by cases c
  | .slice _ _ _, _, _, _, _, _, c, _, _, _ => by cases c
  | .list _, _, _, _, _, _, c, _, _, _ => by cases c
  | .dict, _, _, _, _, _, c, _, _, _ => by cases c
  | .new _ _, _, _, _, _, _, c, _, _, _ => by cases c
  | .bf _ _, _, _, _, _, _, c, _, _, _ => by cases c
  | .comp _ _ _, _, _, _, _, _, c, _, _, _ => by cases c
theorem eoksC (G : GroundC cx N A Φ l K) : ∀ (ms : MEs) (xs : List Expr) (env : Env) (sc : Scope) (ns : List (Option Str)) (Γ : Env'), calmEs K ms = true → ckEs N sc ns ms xs = true → Apart ns → Γ.length = ns.length →
    Sim cx A ((Amb.env cx env sc ns Γ).and (Amb.frames cx l)) (spliced (xs.map fun e => (false, eval e env))) (evalEs cx.T Φ ms Γ) (Amb.vrs cx)
  | .nil, [], env, sc, ns, Γ, c, h, ha, hΓ => sim_nil
  | .nil, _ :: _, env, sc, ns, Γ, c, h, ha, hΓ => by cases (show false = true from h)
  | .cons _ _, [], env, sc, ns, Γ, c, h, ha, hΓ => by cases (show false = true from h)
  | .cons m ms, x :: xs, env, sc, ns, Γ, c, h, ha, hΓ => sim_cons (eokC G m x env sc ns Γ (an1 c) (an1 h) ha hΓ).val (eoksC G ms xs env sc ns Γ (an2 c) (an2 h) ha hΓ)
end
/- statements, over what their expressions do -/
theorem sim_ret_of {m : MEo} {x : Option Expr} {pos : Pos} (hm : ckO N sc ns m x = true) (he : ∀ e x', m = .some e → x = some x' → ck N sc ns e x' = true → ∀ Γ : Env', Γ.length = ns.length → EOk cx A ((Amb.env cx env sc ns Γ).and (Amb.frames cx l)) Φ env Γ e x') : SimS cx A l env sc ns (exec (.Return x pos) env) (execS cx.T Φ (.ret m)) := by
  intro Γ H ρ s R e0 fr
  rw [ex_ret]
  match m, x, hm, he with
  | .none, none, _, _ => exact wpAny_Return_none ⟨_, ρ, rfl, FullS.refl _ _ _, R, .none, e0.st⟩
  | .some e, some x, hm, he =>
    exact SimSK.to (SimSAt.bindK (K := fun v Q _ s => Q (.ret v) s) e0 ((he e x rfl rfl hm Γ e0.len).val H ρ s R ⟨e0, fr⟩) (fun b v H1 ρ1 s1 _ F1 R1 e1 vr => ⟨v, ρ1, rfl, FullS.refl _ _ _, R1, vr, e1.st⟩) (fun _ Q E Q' E' s h k1 _ => k1 _ _ h) fun Q E h => wpAny_Return_some h)
  | .none, some _, h, _ => cases (show false = true from h)
  | .some _, none, h, _ => cases (show false = true from h)
theorem sim_ite_of {c : ME} {t f : MSs} {x : Expr} {ts fs : List Stmt} {pos : Pos} (hc : ∀ Γ : Env', Γ.length = ns.length → EOk cx A ((Amb.env cx env sc ns Γ).and (Amb.frames cx l)) Φ env Γ c x) (ht : SimS cx A l env sc ns (execs ts env) (execSs cx.T Φ t)) (hf : SimS cx A l env sc ns (execs fs env) (execSs cx.T Φ f)) :
    SimS cx A l env sc ns (exec (.If x ts fs pos) env) (execS cx.T Φ (.ite c t f)) := by
  intro Γ H ρ s R e0 fr
  rw [ex_ite]
  refine SimSK.to (SimSAt.bindK (K := fun b Q E s => if b = true then wpAny (model cx.prog cx.w) A (execs ts env) Q E s else wpAny (model cx.prog cx.w) A (execs fs env) Q E s) e0 ((hc Γ e0.len).tru H ρ s R ⟨e0, fr⟩) ?_ ?_ fun Q E h => wpAny_If h)
  · intro b b' H1 ρ1 s1 _ F1 R1 e1 hb
    have hb' : b' = b := hb
    subst hb'
    cases b' with
    | true => exact (SimSK.of (ht Γ H1 ρ1 s1 R1 e1 (fr.full F1))).mono fun Q E h => h
    | false => exact (SimSK.of (hf Γ H1 ρ1 s1 R1 e1 (fr.full F1))).mono fun Q E h => by simpa using h
  · intro b Q E Q' E' s h k1 k2
    cases b
    · simp only [Bool.false_eq_true, if_false] at h ⊢; exact wpAny_mono h k1 k2
    · simp only [if_true] at h ⊢; exact wpAny_mono h k1 k2
mutual
theorem sokC (G : GroundC cx N A Φ l K) (ha : Apart ns) : ∀ (m : MS) (st : Stmt), calmS K m = true → ckS N sc ns m st = true → SimS cx A l env sc ns (exec st env) (execS cx.T Φ m)
  | .assign i e, st, c, h => by
    obtain ⟨t, h⟩ := seen_of h
    rw [t.2]
    refine sim_assign_plain ha (an1 h) (swaps_not (an2 h) fun a b d w => ?_) fun Γ hΓ => eokC G e _ env sc ns Γ c (an2 h) ha hΓ
    rw [w] at c; cases (show false = true from c)
  | .ret e, st, c, h => by
    obtain ⟨t, h⟩ := seen_of h
    rw [t.2]
    exact sim_ret_of h fun e' x' he _ hk Γ hΓ => eokC G e' x' env sc ns Γ (by rw [he] at c; exact c) hk ha hΓ
  | .ite c t f, st, q, h => by
    obtain ⟨p, h⟩ := seen_of h
    rw [p.2]
    exact sim_ite_of (fun Γ hΓ => eokC G c _ env sc ns Γ (an1 (an1 q)) (an1 (an1 h)) ha hΓ) (soksC G ha t p.1.2.1 (an2 (an1 q)) (an2 (an1 h))) (soksC G ha f p.1.2.2.1 (an2 q) (an2 h))
  | .expr _, _, c, _ => by cases c
  | .setattr _ _ _, _, c, _ => by cases c
  | .setitem _ _ _, _, c, _ => by cases c
  | .each _ _ _, _, c, _ => by cases c
  | .raise _ _, _, c, _ => by cases c
  | .tryx _ _, _, c, _ => by cases c
theorem soksC (G : GroundC cx N A Φ l K) (ha : Apart ns) : ∀ (m : MSs) (sts : List Stmt), calmSs K m = true → ckSs N sc ns m sts = true → SimS cx A l env sc ns (execs sts env) (execSs cx.T Φ m)
  | .nil, [], _, _ => by
    intro Γ H ρ s R e0 fr
    exact wpAny_execs_nil ⟨rfl, ρ, FullS.refl _ _ _, R, e0⟩
  | .nil, _ :: _, _, h => by cases (show false = true from h)
  | .cons _ _, [], _, h => by cases (show false = true from h)
  | .cons m ms, st :: sts, c, h => by
    intro Γ H ρ s R e0 fr
    rw [exs_cons]
    exact sim_then e0 fr (sokC G ha m st (an1 c) (an1 h) Γ H ρ s R e0 fr) (soksC G ha ms sts (an2 c) (an2 h))
end
/- a calm function, whatever is handled -/
theorem calm_call (B : Base cx N) (defs : ∀ (f : Nat) (a : Addr), cx.fns[f]? = some a → ∃ g, cx.T.funs[f]? = some g) {k : Nat} {a : Addr} {args : List Val} {vals : List Value} (hc : calmFn cx.T k = true) (hk : cx.fns[k]? = some a) (room : RoomQ A (d + 1)) (hfr : A.frames = some l) :
    Sim cx A ((Amb.vrs cx args vals).and (Amb.frames cx l)) (call (.ref a) vals) (callF cx.T (d + 1) k args) (Amb.vr cx) := by
  refine call_step B hk room hfr fun f stmts env sc ns hf h1 h2 h3 h4 => ?_
  have c : calmSs (fun _ => false) f.body = true := by unfold calmFn at hc; rw [hf] at hc; exact hc
  exact soksC (K := fun _ => false) ⟨B, by have := room.units; show A.units + 3 + 100 < _; omega, fun f a args vals h => (by cases h), defs⟩ h2 f.body stmts c h1
end
end Mine

-- part MTry
namespace Mine
open PySem
/- calm functions may be called whatever is handled -/
noncomputable def FunsC (cx : Cx) (Φ : Funs) (d : Nat) : Prop :=
  ∀ (k : Nat) (a : Addr) (args : List Val) (vals : List Value) (A : Around) (l : List Env), calmFn cx.T k = true → cx.fns[k]? = some a → RoomQ A d → A.frames = some l →
    Sim cx A ((Amb.vrs cx args vals).and (Amb.frames cx l)) (call (.ref a) vals) (Φ k args) (Amb.vr cx)
theorem funsC_ok {cx : Cx} {N : Names} (B : Base cx N) (defs : ∀ (f : Nat) (a : Addr), cx.fns[f]? = some a → ∃ g, cx.T.funs[f]? = some g) : ∀ d, FunsC cx (callF cx.T d) d
  | 0 => fun k a args vals A l _ _ _ _ H ρ s R p => trivial
  | d + 1 => fun k a args vals A l hc hk room hfr => calm_call B defs hc hk room hfr
section
variable {M : Model} {A : Around} {E : Value → Shared → Prop} {h : Heap} {g : Array GenState} {d : Drawn} {t : Nat} {os : OsState}
variable {nm q : Str} {C N : Addr} {bs bm : List Value} {hdct : Bool} {sn : List Str} {sub : List Value} {ab : Bool} {col : Option Bool} {dd : Option Addr} {k0 k1 k2 k3 k5 : Option Value} {newId : String}
variable {nm' q' : Str} {C' N' : Addr} {bs' bm' : List Value} {hdct' : Bool} {sn' : List Str} {sub' : List Value} {ab' : Bool} {col' : Option Bool} {dd' : Option Addr} {k0' k1' k2' k3' k5' : Option Value} {newId' : String}
theorem wp_matches {e : Addr} {oe : Obj} {Q : Bool → Shared → Prop} (hC : h.get? C = some (excClassObj nm q C N bs bm hdct sn sub ab col dd k0 k1 k2 k3 k5 newId)) (hD : h.get? C' = some (excClassObj nm' q' C' N' bs' bm' hdct' sn' sub' ab' col' dd' k0' k1' k2' k3' k5' newId')) (he : h.get? e = some oe) (hcls : oe.cls = .ref C) (hbase : bm'.contains (.type "BaseException") = true)
    (hq : Q ((Value.ref C :: bm).contains (.ref C')) ⟨h, g, d, t, os⟩) : wpAny M A (excMatches (.ref e) (.ref C')) Q E ⟨h, g, d, t, os⟩ := by
  have hcB : (Value.ref C' :: bm').contains (.type "BaseException") = true := by rw [List.contains_cons, hbase, Bool.or_true]
  have f := tc_notTuple
  generalize hb : (Value.ref C :: bm).contains (.ref C') = b at hq
  unfold excMatches
  repeat (first | (with_reducible refine wpAny_loadPart_at he ?_; rw [hcls]) | with_reducible refine wpAny_loadPart_at hD ?_ | (with_reducible refine wpAny_isSubtype_exc hD ?_; rw [hcB]) | (with_reducible refine wpAny_isSubtype_exc hC ?_; rw [hb]) | wp_step)
  cases b <;> (wp_walk; exact hq)
end
section
variable {cx : Cx} {N : Names} {A : Around} {Φ : Funs} {l : List Env} {d : Nat} {env : Env} {sc : Scope} {ns : List (Option Str)} {Γ : Env'} {H : Hp} {ρ ρ₀ : Rho} {s : Shared} {h : Heap} {c : Nat} {e : Value} {Q : Flow → Shared → Prop} {E : Value → Shared → Prop}
theorem wp_pass (lb : Live cx.h₀ h) (fl : Flown cx ρ h s.heap c e) {what : String} (k : ∀ h', Off cx ρ h s.heap h' → Flown cx ρ h h' c e → E e { s with heap := h' }) : wpAny (model cx.prog cx.w) A (passOn what e env : Sem Flow) Q E s := by
  obtain ⟨a, C, vs, tb, tvs, rfl, hC, ha, ga, hz, no, h1, htb, gtb, hzt, not⟩ := fl.is
  unfold passOn
  refine wpAny_bind (wpAny_field ga rfl h1 ?_)
  rw [if_neg (show ¬ ((Value.ref tb == Value.none) = true) from by simp)]
  exact wpAny_bind (wp_flight lb ⟨a, C, vs, tb, tvs, rfl, hC, ha, ga, hz, no, h1, htb, gtb, hzt, not⟩ fun h' o' fl' => wpAny_throw (k h' o' fl'))
/- a suite that gives something back -/
theorem suite_ok {e : Value} {b : MSs} {ts : List Stmt} {K : Nat → Bool} {v : Val} {H' : Hp} {Γ' : Env'} (G : GroundC cx N (A.mark (some e)) Φ (env :: l) K) (ha : Apart ns) (hc : calmSs K b = true) (hk : ckSs N sc ns b ts = true) (hr : execSs cx.T Φ b Γ' H = .ret v H') (R : Rel cx H ρ s) (e0 : EnvOk cx env sc ns Γ' ρ s.heap) (w : FramesOk cx (env :: l) ρ s.heap) (F : FullS env ρ₀ h ρ s.heap)
    (k : ∀ v' ρ' s', FullS env ρ₀ h ρ' s'.heap → Rel cx H' ρ' s' → VR cx ρ' s'.heap v v' → EnvSt cx env sc ρ' s'.heap → Q (.ret v') s') : wpAny (model cx.prog cx.w) (A.mark (some e)) (execs ts env) Q (fun x s' => False) s := by
  have y := soksC (env := env) G ha b ts hc hk Γ' H ρ s R e0 w
  rw [hr] at y
  exact wpAny_mono y (fun f s' ⟨v', ρ', h1, F1, R1, vr⟩ => by subst h1; exact k v' ρ' s' (F.trans F1) R1 vr.1 vr.2) fun _ _ q => q.elim
theorem Step.loc {h h' : Heap} (x : EnvSt cx env sc ρ h) (sb : Heap.SameBut env.locals h h') (e' : ∃ o, h'.get? env.locals = some o) : Step ρ h ρ h' := by
  have k : ∀ b o, h.get? b = some o → b ≠ env.locals → h'.get? b = some o := fun b o e n => (sb.2 b n).trans e
  exact ⟨⟨[], by simp⟩, fun b o e f n => ⟨k b o e (x.notLoc e f.notDict), n⟩, fun b o C e f n => ⟨o, k b o e (x.notLoc e f.notDict), f, n⟩⟩
/- the name of a handler goes -/
theorem name_goes {n : Str} {pos : Pos} {Q : Unit → Shared → Prop} (hl : sc.names.lookup n = some .local) (R : Rel cx H ρ s) (st : EnvSt cx env sc ρ s.heap) (F : FullS env ρ₀ h ρ s.heap)
    (k : ∀ h' tk, FullS env ρ₀ h ρ h' → Rel cx H ρ { s with heap := h', toks := tk } → Step ρ s.heap ρ h' → EnvSt cx env sc ρ h' → Q () { s with heap := h', toks := tk }) : wpAny (model cx.prog cx.w) A (do bindName env n .none; unbindBehindTheSuite env n pos) Q E s := by
  obtain ⟨m, hm⟩ := st.loc
  refine wpAny_nameGoes (m := m) (st.kinds n _ hl) hm (by rw [st.fn]; rfl) fun h' m' hn' sb => ?_
  obtain ⟨o', es', ep', e', d', _⟩ := id hn'
  have stp := Step.loc st sb ⟨o', e'⟩
  have kk : ∀ b o, s.heap.get? b = some o → b ≠ env.locals → h'.get? b = some o := fun b o e n => (sb.2 b n).trans e
  refine k h' _ ⟨F.grow, fun b o e n n1 n2 => ?_, fun b o e => ?_⟩ (R.same stp (fun b o w e => kk b o e fun q => st.locN (q ▸ w)) fun b o e => kk b o (R.base b o e) fun q => by rw [q, st.locB] at e; cases e) stp ⟨st.fn, st.glob, st.blt, st.kinds, ⟨m', hn'⟩, st.locN, st.locB, fun y c hc => ?_, st.hasCell, st.apart⟩
  · obtain ⟨o1, e1, u1⟩ := F.keep b o e n n1 n2
    exact ⟨o1, kk b o1 e1 n1, u1⟩
  · obtain ⟨o1, e1⟩ := F.live b o e
    by_cases q : b = env.locals
    · exact ⟨o', q ▸ e'⟩
    · exact ⟨o1, kk b o1 e1 q⟩
  · obtain ⟨⟨v, o, eo, dv⟩, n, b⟩ := st.cells y c hc
    exact ⟨⟨v, o, kk c o eo (st.notLoc eo fun es k q => by rw [dv] at q; cases q), dv⟩, n, b⟩
theorem exh_cons (T : Tab) (Φ : Funs) (d : Nat) (i : Option Nat) (body : MSs) (hs : MHs) (c : Nat) (Γ : Env') (H : Hp) : execH T Φ (.cons d i body hs) c Γ H = (if (T.isExc c && T.isExc d && calmSs (calmFn T) body) = false then .bad else if T.sub c d = true then
      match execSs T Φ body (match i with | some i => Γ.set i (some (.exc c)) | none => Γ) H with
      | .ret v H' => .ret v H'
      | _ => .bad
    else execH T Φ hs c Γ H) := rfl
theorem exh_ret {r : ResS} (h : (match r with | .ret v H' => ResS.ret v H' | _ => .bad) ≠ .bad) : ∃ v H', r = .ret v H' := by
  cases r with
  | ret v H' => exact ⟨v, H', rfl⟩
  | bad => exact absurd rfl h
  | next _ _ => exact absurd rfl h
  | exc _ _ _ => exact absurd rfl h
/- the suite of a handler -/
theorem handler_ok (G : Ground cx N A Φ (env :: l) d) (FC : FunsC cx Φ d) (ha : Apart ns) (lb : Live cx.h₀ h) {b : MSs} {i : Option Nat} {y : Option Str} {t : Stmt} {ts : List Stmt} {pos : Pos} {v : Val} {H' : Hp} (hcalm : calmSs (calmFn cx.T) b = true) (hck : ckSs N sc ns b (t :: ts) = true) (hr : execSs cx.T Φ b (match i with | some i => Γ.set i (some (.exc c)) | none => Γ) H = .ret v H') (hnm : hdName sc ns i y = true)
    (R : Rel cx H ρ s) (e0 : EnvOk cx env sc ns Γ ρ s.heap) (w : FramesOk cx (env :: l) ρ s.heap) (F : FullS env ρ₀ h ρ s.heap) (fl : Flown cx ρ h s.heap c e) (p : PostS cx env sc ns ρ₀ h (.ret v H') Q E) :
    codeAny (model cx.prog cx.w) (A.mark (some e)) (.handlers e [.ExceptHandler none y (t :: ts) pos] env) (fun r s₂ => match r with
          | .ok f => (match (generalizing := false) y with
            | none => Q f s₂
            | some n => wpAny (model cx.prog cx.w) A (do bindName env n .none; unbindBehindTheSuite env n pos) (fun _ s₃ => Q f s₃) E s₂)
          | .error x => cameBackBy (model cx.prog cx.w) A env E x s₂) s := by
  have GC : GroundC cx N (A.mark (some e)) Φ (env :: l) (calmFn cx.T) := ⟨G.base, G.u, fun f a args vals hc hf => FC f a args vals (A.mark (some e)) (env :: l) hc hf ⟨by have := G.room.depth; show A.depth + _ + _ < _; omega, by have := G.room.units; show A.units + _ + _ < _; omega⟩ G.frames, G.defs⟩
  cases i with
  | none =>
    cases y with
    | some _ => cases hnm
    | none =>
      refine codeAny_handlers_suite (wp_flight lb fl fun h1 o1 fl1 => ?_)
      exact wpAny_mono (suite_ok (s := { s with heap := h1 }) GC ha hcalm hck hr (o1.rel R) (o1.envK e0) (o1.frames w) (o1.fullS F) fun v' ρ' s' F' R' vr st => p s' ρ' v' F' R' ⟨vr, st⟩) (fun _ _ q => q) fun _ _ q => q.elim
  | some i =>
    cases y with
    | none => cases hnm
    | some n =>
      have hown : isOwn sc ns i n = true := an1 hnm
      have hloc : sc.names.lookup n = some .local := of_decide_eq_true (an2 hnm)
      refine codeAny_handlers_suite_as (wp_flight lb fl fun h1 o1 fl1 => ?_)
      refine store_var (s := { s with heap := h1 }) (o1.envK e0).len ha (o1.rel R) (o1.envK e0) hown fl1.vr fun h2 tk2 F2 R2 e2 _ => ?_
      refine wpAny_mono (suite_ok (s := { s with heap := h2, toks := tk2 }) GC ha hcalm hck hr R2 e2 ((o1.frames w).stmt F2 (o1.envK e0).st e2.st) ((o1.fullS F).trans F2) fun v' ρ' s' F' R' vr st => ?_) (fun _ _ q => q) fun _ _ q => q.elim
      exact name_goes hloc R' st F' fun h3 tk3 F3 R3 stp st3 => p { s' with heap := h3, toks := tk3 } ρ' v' F3 R3 ⟨vr.step stp, st3⟩
theorem handle_ok (G : Ground cx N A Φ (env :: l) d) (FC : FunsC cx Φ d) (ha : Apart ns) (lb : Live cx.h₀ h) : ∀ (hs : MHs) (hx : List ExceptHandler), ckHs N sc ns hs hx = true → Rel cx H ρ s → EnvOk cx env sc ns Γ ρ s.heap → FramesOk cx (env :: l) ρ s.heap → FullS env ρ₀ h ρ s.heap → Flown cx ρ h s.heap c e → execH cx.T Φ hs c Γ H ≠ .bad → PostS cx env sc ns ρ₀ h (execH cx.T Φ hs c Γ H) Q E → wpAny (model cx.prog cx.w) A (handleBy e env hx) Q E s
  | .nil, [], _, R, e0, w, F, fl, _, p => wpAny_handleBy_nil (wp_pass lb fl fun h' o' fl' => p e { s with heap := h' } ρ (o'.fullS F) (o'.rel R) (o'.envK e0) fl'.to)
  | .nil, _ :: _, hk, _, _, _, _, _, _, _ => by cases (show false = true from hk)
  | .cons _ _ _ _, [], hk, _, _, _, _, _, _, _ => by cases (show false = true from hk)
  | .cons dc i b hs, hd :: hx, hk, R, e0, w, F, fl, nb, p => by
    obtain ⟨t, hc⟩ := seen_of (an1 hk)
    rw [t.2]
    rw [exh_cons] at nb p
    by_cases q1 : (cx.T.isExc c && cx.T.isExc dc && calmSs (calmFn cx.T) b) = false
    · rw [if_pos q1] at nb; exact absurd rfl nb
    rw [if_neg q1] at nb p
    have q2 : (cx.T.isExc c && cx.T.isExc dc && calmSs (calmFn cx.T) b) = true := by cases q : (cx.T.isExc c && cx.T.isExc dc && calmSs (calmFn cx.T) b) <;> first | rfl | exact absurd q q1
    obtain ⟨mg, mb, ng, nbl, _, _, qc, _⟩ := G.base.ns
    obtain ⟨Dv, hDv, hxv⟩ := qc _ dc (hasNo_eq (an2 (an1 (an1 hc))))
    obtain ⟨C, hC, okC⟩ := G.base.exc c (an1 (an1 q2))
    obtain ⟨D, hD, okD⟩ := G.base.exc dc (an2 (an1 q2))
    rw [hD] at hDv; cases hDv
    obtain ⟨nm, qn, Nn, bs, bm, hdct, sn, sub, ab, col, dd, k0, k1, k2, k3, k5, mN, hCo, hNs, hin, tl, hsub⟩ := okC.is
    obtain ⟨nm', qn', Nn', bs', bm', hdct', sn', sub', ab', col', dd', k0', k1', k2', k3', k5', mN', hDo, hNs', hin', tl', hsub'⟩ := okD.is
    obtain ⟨a, C', vs, tb, tvs, he, hC', hna, ga, hz, no, h7⟩ := id fl.is
    rw [hC] at hC'; cases hC'
    refine wpAny_handleBy_cons (codeAny_handlers_test (wp_glob (A := A.mark (some e)) R e0.st (an1 (an1 (an1 hc))) ng nbl hxv ?_)) (by rw [he]; intro q; cases q)
    have m := hsub dc (.ref D) hD
    have goal : ∀ z, (Value.ref C :: bm).contains (.ref D) = z → (if z = true then codeAny (model cx.prog cx.w) (A.mark (some e)) (.handlers e [.ExceptHandler none t.1.2.2.1 (t.1.2.2.2.1 :: t.1.2.2.2.2.1) t.1.2.2.2.2.2] env) (fun r s₂ => match r with
          | .ok f => (match t.1.2.2.1 with
            | none => Q f s₂
            | some n => wpAny (model cx.prog cx.w) A (do bindName env n .none; unbindBehindTheSuite env n t.1.2.2.2.2.2) (fun _ s₃ => Q f s₃) E s₂)
          | .error x => cameBackBy (model cx.prog cx.w) A env E x s₂) s else wpAny (model cx.prog cx.w) A (handleBy e env hx) Q E s) := by
      intro z hz'
      rw [hz'] at m
      rw [m] at nb p
      cases z with
      | true =>
        rw [if_pos rfl] at nb p ⊢
        obtain ⟨v, H', hr⟩ := exh_ret nb
        rw [hr] at p
        exact handler_ok G FC ha lb (an2 q2) (an2 (an1 hc)) hr (an2 hc) R e0 w F fl p
      | false =>
        rw [if_neg (by decide)] at nb p ⊢
        exact handle_ok G FC ha lb hs hx (an2 hk) R e0 w F fl nb p
    have g := goal _ rfl
    rw [he]
    rw [he] at g
    obtain ⟨hp, gg, dr, tk, os⟩ := s
    refine wp_matches (R.base _ _ hCo) (R.base _ _ hDo) ga rfl (tl'.hasType (by decide)) ?_
    cases z : (Value.ref C :: bm).contains (.ref D) with
    | true => rw [z, if_pos rfl] at g; exact g
    | false => rw [z, if_neg (by decide)] at g; exact g
theorem sim_try (G : Ground cx N A Φ (env :: l) d) (FC : FunsC cx Φ d) (ha : Apart ns) (hef : env.frame = some env.locals) {b : MSs} {hs : MHs} {ts : List Stmt} {h0 : ExceptHandler} {hx : List ExceptHandler} {pos : Pos} (hb : SimS cx A (env :: l) env sc ns (execs ts env) (execSs cx.T Φ b)) (hk : ckHs N sc ns hs (h0 :: hx) = true) :
    SimS cx A (env :: l) env sc ns (exec (.Try ts (h0 :: hx) [] [] pos) env) (execS cx.T Φ (.tryx b hs)) := by
  intro Γ H ρ s R e0 fr
  have B := hb Γ H ρ s R e0 fr
  have ex : execS cx.T Φ (.tryx b hs) Γ H = (match execSs cx.T Φ b Γ H with | .exc c Γ' H' => execH cx.T Φ hs c Γ' H' | r => r) := rfl
  rw [ex]
  cases hr : execSs cx.T Φ b Γ H with
  | bad => trivial
  | next Γ' H' =>
    rw [hr] at B
    exact wpAny_Try_except (wpAny_mono B (fun f s' ⟨h1, q⟩ => by subst h1; exact wpAny_execs_nil ⟨rfl, q⟩) fun _ _ q => q.elim)
  | ret v H' =>
    rw [hr] at B
    exact wpAny_Try_except (wpAny_mono B (fun f s' ⟨v', ρ', h1, q⟩ => by subst h1; exact ⟨v', ρ', rfl, q⟩) fun _ _ q => q.elim)
  | exc c Γ' H' =>
    rw [hr] at B
    refine SimSK.to (SimSK.ofPost (T := fun Q E s => wpAny (model cx.prog cx.w) A (exec (.Try ts (h0 :: hx) [] [] pos) env) Q E s) fun Q E nb p => ?_)
    refine wpAny_Try_except (wpAny_mono B (fun _ _ q => q.elim) fun e s' ⟨ρ', F, R', e', fl⟩ => ?_)
    have w' := fr.stmt F e0.st e'.st
    have lb : Live cx.h₀ s.heap := fun b o e => ⟨o, R.base b o e⟩
    refine wp_note G.frames hef w' R' lb F.live fl fun h1 o1 fl1 => wp_flight (s := { s' with heap := h1 }) lb fl1 fun h2 o2 fl2 => ?_
    have o := o1.trans o2
    exact handle_ok (s := { s' with heap := h2 }) G FC ha lb hs (h0 :: hx) hk (o.rel R') (o.envK e') (o.frames w') (o.fullS F) fl2 nb p
end
end Mine

-- part MBody
namespace Mine
open PySem
section
variable {cx : Cx} {N : Names} {A : Around} {Φ : Funs} {l : List Env} {d : Nat} {env : Env} {sc : Scope} {ns : List (Option Str)} {Γ : Env'} {H : Hp} {ρ ρ' : Rho} {s : Shared}

theorem sim_expr (G : Ground cx N A Φ l d) {m : ME} {x : Expr} {pos : Pos} (ha : Apart ns) (hm : ck N sc ns m x = true) (hc : notComp m = true) : SimS cx A l env sc ns (exec (.Expr x pos) env) (execS cx.T Φ (.expr m)) := by
  intro Γ H ρ s R e0 fr
  rw [ex_expr]
  have nc : ∀ a b c, m ≠ .comp a b c := fun a b c q => by subst q; cases hc
  refine SimSK.to (SimSAt.bindK (K := fun _ Q _ s => Q .next s) e0 ((eok G m x env sc ns Γ hm ha e0.len).val H ρ s R ⟨e0, fr⟩) (fun b v H1 ρ1 s1 _ F1 R1 e1 vr => ⟨rfl, ρ1, FullS.refl _ _ _, R1, e1⟩) (fun _ Q E Q' E' s h k1 _ => k1 _ _ h) fun Q E h => ?_)
  refine wpAny_Expr_any h ?_ (swaps_not hm nc)
  unfold interactive
  rw [e0.st.fn]; rfl
theorem sim_ret (G : Ground cx N A Φ l d) {m : MEo} {x : Option Expr} {pos : Pos} (ha : Apart ns) (hm : ckO N sc ns m x = true) : SimS cx A l env sc ns (exec (.Return x pos) env) (execS cx.T Φ (.ret m)) := by
  intro Γ H ρ s R e0 fr
  rw [ex_ret]
  match m, x, hm with
  | .none, none, _ =>
    exact wpAny_Return_none ⟨_, ρ, rfl, FullS.refl _ _ _, R, .none, e0.st⟩
  | .some e, some x, hm =>
    exact SimSK.to (SimSAt.bindK (K := fun v Q _ s => Q (.ret v) s) e0 ((eok G e x env sc ns Γ hm ha e0.len).val H ρ s R ⟨e0, fr⟩) (fun b v H1 ρ1 s1 _ F1 R1 e1 vr => ⟨v, ρ1, rfl, FullS.refl _ _ _, R1, vr, e1.st⟩) (fun _ Q E Q' E' s h k1 _ => k1 _ _ h) fun Q E h => wpAny_Return_some h)
  | .none, some _, h => cases (show false = true from h)
  | .some _, none, h => cases (show false = true from h)
theorem sim_ite (G : Ground cx N A Φ l d) {c : ME} {t f : MSs} {x : Expr} {ts fs : List Stmt} {pos : Pos} (ha : Apart ns) (hm : ck N sc ns c x = true) (ht : SimS cx A l env sc ns (execs ts env) (execSs cx.T Φ t)) (hf : SimS cx A l env sc ns (execs fs env) (execSs cx.T Φ f)) :
    SimS cx A l env sc ns (exec (.If x ts fs pos) env) (execS cx.T Φ (.ite c t f)) := by
  intro Γ H ρ s R e0 fr
  rw [ex_ite]
  refine SimSK.to (SimSAt.bindK (K := fun b Q E s => if b = true then wpAny (model cx.prog cx.w) A (execs ts env) Q E s else wpAny (model cx.prog cx.w) A (execs fs env) Q E s) e0 ((eok G c x env sc ns Γ hm ha e0.len).tru H ρ s R ⟨e0, fr⟩) ?_ ?_ fun Q E h => wpAny_If h)
  · intro b b' H1 ρ1 s1 _ F1 R1 e1 hb
    have hb' : b' = b := hb
    subst hb'
    cases b' with
    | true => exact (SimSK.of (ht Γ H1 ρ1 s1 R1 e1 (fr.full F1))).mono fun Q E h => h
    | false => exact (SimSK.of (hf Γ H1 ρ1 s1 R1 e1 (fr.full F1))).mono fun Q E h => by simpa using h
  · intro b Q E Q' E' s h k1 k2
    cases b
    · simp only [Bool.false_eq_true, if_false] at h ⊢; exact wpAny_mono h k1 k2
    · simp only [if_true] at h ⊢; exact wpAny_mono h k1 k2

theorem ckSs_nil {b : MSs} (h : ckSs N sc ns b [] = true) : b = .nil := by
  cases b with
  | nil => rfl
  | cons _ _ => cases (show false = true from h)

set_option maxHeartbeats 4000000 in
mutual
theorem sok (G : Ground cx N A Φ (env :: l) d) (FC : FunsC cx Φ d) (ha : Apart ns) (hef : env.frame = some env.locals) : ∀ (m : MS) (st : Stmt), ckS N sc ns m st = true → SimS cx A (env :: l) env sc ns (exec st env) (execS cx.T Φ m)
  | .expr e, st, h => by
    obtain ⟨t, h⟩ := seen_of h
    rw [t.2]
    exact sim_expr G ha (an1 h) (an2 h)
  | .assign i e, st, h => by
    obtain ⟨t, h⟩ := seen_of h
    rw [t.2]
    exact sim_assign G ha (an1 h) (an2 h)
  | .setattr o n e, st, h => by
    obtain ⟨t, h⟩ := seen_of h
    rw [t.2]
    exact sim_setattr G ha (an1 (an1 h)) (an2 (an1 h)) (an2 h)
  | .setitem o i e, st, h => by
    obtain ⟨t, h⟩ := seen_of h
    rw [t.2]
    exact sim_setitem G ha (an1 (an1 h)) (an2 (an1 h)) (an2 h)
  | .ret e, st, h => by
    obtain ⟨t, h⟩ := seen_of h
    rw [t.2]
    exact sim_ret G ha h
  | .ite c t f, st, h => by
    obtain ⟨p, h⟩ := seen_of h
    rw [p.2]
    exact sim_ite G ha (an1 (an1 h)) (soks G FC ha hef t p.1.2.1 (an2 (an1 h))) (soks G FC ha hef f p.1.2.2.1 (an2 h))
  | .each i it b, st, h => by
    obtain ⟨t, h⟩ := seen_of h
    rw [t.2]
    exact sim_each G.room.hh G.frames ha (an1 (an1 (an1 h))) (an2 (an1 h)) (fun Γ hΓ => eok G it t.1.2.2.1 env sc ns Γ (an2 (an1 (an1 h))) ha hΓ) (soks G FC ha hef b t.1.2.2.2.1 (an2 h))
  | .raise c msg, st, h => by
    obtain ⟨t, h⟩ := seen_of h
    rw [t.2]
    have e := of_decide_eq_true (an2 (an1 h))
    have hk := an2 h
    rw [e] at hk ⊢
    exact sim_raise G ha (an1 (an1 (an1 h))) (an2 (an1 (an1 h))) hk
  | .tryx b hs, st, h => by
    obtain ⟨t, h⟩ := seen_of h
    rw [t.2]
    exact sim_try G FC ha hef (soks G FC ha hef b t.1.1 (an1 h)) (an2 h)
theorem soks (G : Ground cx N A Φ (env :: l) d) (FC : FunsC cx Φ d) (ha : Apart ns) (hef : env.frame = some env.locals) : ∀ (m : MSs) (sts : List Stmt), ckSs N sc ns m sts = true → SimS cx A (env :: l) env sc ns (execs sts env) (execSs cx.T Φ m)
  | .nil, [], _ => by
    intro Γ H ρ s R e0 fr
    exact wpAny_execs_nil ⟨rfl, ρ, FullS.refl _ _ _, R, e0⟩
  | .nil, _ :: _, h => by cases (show false = true from h)
  | .cons _ _, [], h => by cases (show false = true from h)
  | .cons m ms, st :: sts, h => by
    have h := And.intro (an1 h) (an2 h)
    intro Γ H ρ s R e0 fr
    rw [exs_cons]
    exact sim_then e0 fr (sok G FC ha hef m st h.1 Γ H ρ s R e0 fr) (soks G FC ha hef ms sts h.2)
end

/- a def's body -/
theorem body_ok {d : Nat} (B : Base cx N) (defs : ∀ (f : Nat) (a : Addr), cx.fns[f]? = some a → ∃ g, cx.T.funs[f]? = some g) {Φ : Funs} (hΦ : FunsOk cx Φ d) (FC : FunsC cx Φ d) : BodyOk cx N Φ d :=
  fun body stmts env sc ns A l hck ha room hfr hef => soks (Φ := Φ) ⟨B, room, hfr, hΦ, defs⟩ FC ha hef body stmts hck
theorem funs_ok (B : Base cx N) (defs : ∀ (f : Nat) (a : Addr), cx.fns[f]? = some a → ∃ g, cx.T.funs[f]? = some g) : ∀ d, FunsOk cx (callF cx.T d) d
  | 0 => fun k a args vals A l _ _ _ H ρ s R p => trivial
  | d + 1 => FunsOk.step B (body_ok B defs (funs_ok B defs d) (funsC_ok B defs d))
end
end Mine

-- part MHead
namespace Mine
open PySem PySem.W.X

noncomputable def isNoneV : Value → Bool
  | .none => true
  | _ => false
noncomputable def sameB : Value → Value → Bool
  | .builtin a, .builtin b => decide (a = b)
  | .type a, .type b => decide (a = b)
  | .ref a, .ref b => Nat.beq a b
  | _, _ => false
theorem sameB_eq {a b : Value} (h : sameB a b = true) : a = b := by
  unfold sameB at h
  split at h
  · rw [of_decide_eq_true h]
  · rw [of_decide_eq_true h]
  · rw [Nat.eq_of_beq_eq_true h]
  · cases h
noncomputable def litOk : Val → Value → Bool
  | .none, .none => true
  | .bool a, .bool b => a == b
  | .int a, .int b _ => decide (a = b)
  | .str a, .str b _ => decide (a = b) && decide (a.length ≤ 1000)
  | _, _ => false
theorem litOk_vr {cx : Cx} {ρ : Rho} {h : Heap} {v : Val} {w : Value} (x : litOk v w = true) : VR cx ρ h v w := by
  unfold litOk at x
  split at x
  · exact .none
  · rw [eq_of_beq x]; exact .bool _
  · rw [of_decide_eq_true x]; exact .int _ _
  · rw [Bool.and_eq_true] at x
    rw [← of_decide_eq_true x.1]
    have := of_decide_eq_true x.2
    exact .str _ _ (by rw [sizeLine_eq]; omega)
  · cases x
noncomputable def codeOk (t : Addr → Option Obj) (c : Value) (q : Str) : Bool := match c with
  | .ref a => (match t a with
    | some o => (match o.data with
      | .fields vs => (match (vs[1]? : Option Value) with
        | some (.str x _) => decide (x = q)
        | _ => false)
      | _ => false)
    | none => false)
  | _ => false
noncomputable def fnAt (N : Names) (t : Addr → Option Obj) (a : Nat) (f : MFun) (ns : List Str) : Bool := match t a with
  | some o => (match o.data with
    | .func fd => (match fd.body with
      | .stmts body => ckF N f ns fd.params body fd.scope && fd.closure.isEmpty && Nat.beq fd.globals mainGlobals && Nat.beq fd.builtins builtinsNs && isNoneV fd.defaults && isNoneV fd.kwdefaults && codeOk t fd.code fd.qualname && sameB o.cls (.type "function")
      | _ => false)
    | _ => false)
  | none => false
noncomputable def fnsAt (N : Names) (t : Addr → Option Obj) : List Addr → List MFun → List (List Str) → Bool
  | [], [], [] => true
  | a :: as, f :: fs, ns :: nss => fnAt N t a f ns && fnsAt N t as fs nss
  | _, _, _ => false
noncomputable def topOk (es : Array DictEntry) (N : Names) (T : Tab) (cls : List Value) (fns : List Addr) : Bool :=
  (N.funs.all fun p => match fns[p.2]?, nsFind es p.1 with
    | some a, some v => sameB (.ref a) v
    | _, _ => false) &&
  (N.globs.all fun p => match T.globs[p.2]?, nsFind es p.1 with
    | some m, some v => litOk m v
    | _, _ => false) &&
  (N.clss.all fun p => match cls[p.2]?, nsFind es p.1 with
    | some c, some v => sameB c v
    | some c, none => (match bootBuiltins p.1 with
      | some v => sameB c v && !decide (p.1 = ("__name__" : Str))
      | none => false)
    | _, _ => false) &&
  (bltTab.all fun p => (nsFind es p.1).isNone && !decide (p.1 = ("__name__" : Str)) && (match bootBuiltins p.1 with
    | some v => sameB p.2 v
    | none => false))
/-! ## classes -/
noncomputable def isFn (t : Addr → Option Obj) (a : Nat) : Bool := match t a with
  | some o => sameB o.cls (.type "function") && (match o.data with
    | .func _ => true
    | _ => false)
  | none => false
noncomputable def strKey (v : Value) : Bool := match v with
  | .str _ _ => true
  | _ => false
noncomputable def newSlot (o : Option Value) : Bool := match o with
  | some v => sameB v (.builtin "object.__new__")
  | none => false
noncomputable def noObj (y : Str) : Bool := match fastLookup "object" y with
  | some none => true
  | _ => false
noncomputable def anyObj (y : Str) : Bool := (fastLookup "object" y).isSome
noncomputable def nsCls (t : Addr → Option Obj) (N : Names) (T : Tab) (attrs : List Str) (fns : List Addr) (c : Nat) (es : Array DictEntry) : Bool :=
  (es.toList.all fun e => strKey e.key) && (nsFind es "__getattribute__").isNone && (nsFind es "__getattr__").isNone && (nsFind es "__setattr__").isNone &&
  (attrs.all fun y => (nsFind es y).isNone && noObj y) &&
  (N.meths.all fun p => match T.meth c p.2 with
    | none => true
    | some k => (match fns[k]?, nsFind es p.1 with
      | some fa, some v => sameB (.ref fa) v && isFn t fa && !(attrs.contains p.1) && anyObj p.1
      | _, _ => false))
noncomputable def slots6 (l : List (Option Value)) : Option { p : Option Value × Option Value × Option Value × Option Value × Option Value × Option Value // l = [p.1, p.2.1, p.2.2.1, p.2.2.2.1, p.2.2.2.2.1, p.2.2.2.2.2] } := match l with
  | [a, b, c, d, e, f] => some ⟨(a, b, c, d, e, f), rfl⟩
  | _ => none
noncomputable def clsAt (t : Addr → Option Obj) (N : Names) (T : Tab) (attrs : List Str) (fns : List Addr) (c : Nat) (v : Value) : Bool := match v with
  | .ref C => (match t C with
    | some o => (match o.data with
      | .cls cd => sameB o.cls (.type "type") && decide (cd.mro = [.ref C, .type "object"]) && cd.hasDict && !cd.abstract && !cd.hasDel && (match slots6 o.slots.toList with
        | some ⟨p, _⟩ => newSlot p.2.2.2.2.1
        | none => false) && (match t cd.ns with
        | some on => (match on.data with
          | .dict es _ => nsCls t N T attrs fns c es
          | _ => false)
        | none => false)
      | _ => false)
    | none => false)
  | _ => false
noncomputable def clssAt (t : Addr → Option Obj) (N : Names) (T : Tab) (attrs : List Str) (fns : List Addr) : Nat → List Value → Bool
  | _, [] => true
  | c, v :: vs => ((T.meth c 0).isNone || clsAt t N T attrs fns c v) && clssAt t N T attrs fns (c + 1) vs
noncomputable def attrsOk (N : Names) (attrs : List Str) : Bool :=
  (N.attrs.all fun p => match attrs[p.2]? with
    | some y => decide (y = p.1)
    | none => false) && nodupS (attrs.map some) && decide (attrs.length ≤ 1000) && hasNo N.meths "__init__" 0
noncomputable def headOk (t : Addr → Option Obj) (N : Names) (T : Tab) (cls : List Value) (fns : List Addr) (nss : List (List Str)) : Bool :=
  (match t mainGlobals with
   | some o => (match o.data with
     | .dict es _ => topOk es N T cls fns
     | _ => false)
   | none => false) && fnsAt N t fns T.funs nss

/- what a heap holds -/
noncomputable def Has (h : Heap) (t : Addr → Option Obj) : Prop := ∀ a o, t a = some o → h.get? a = some o
theorem kt_get {h : Heap} {t : Addr → Option Obj} (Z : Has h t) {a : Nat} {o : Obj} (e : t a = some o) : h.get? a = some o := Z a o e

set_option tactic.hygienic true in
theorem codeOk_rec {h : Heap} {t : Addr → Option Obj} (Z : Has h t) {c : Value} {q : Str} (x : codeOk t c q = true) : h.CodeRec c q := by
  unfold codeOk at x
  split at x
  · split at x
    · rename_i o e
      split at x
      · rename_i vs hd
        split at x
        · rename_i y tk hv
          rw [← of_decide_eq_true x]
          exact ⟨_, o, vs, tk, rfl, kt_get Z e, hd, hv⟩
        · cases x
      · cases x
    · cases x
  · cases x

set_option tactic.hygienic true in
theorem fnAt_ok {cx : Cx} {N : Names} {t : Addr → Option Obj} (Z : Has cx.h₀ t) {a : Nat} {f : MFun} {ns : List Str} (x : fnAt N t a f ns = true) : FnOk cx N a f := by
  unfold fnAt at x
  split at x
  · rename_i o e
    split at x
    · rename_i fd hd
      split at x
      · rename_i body hb
        simp only [Bool.and_eq_true] at x
        obtain ⟨⟨⟨⟨⟨⟨⟨x1, x2⟩, x3⟩, x4⟩, x5⟩, x6⟩, x7⟩, x8⟩ := x
        have none_of : ∀ {v : Value}, isNoneV v = true → v = .none := fun {v} h => by cases v <;> first | rfl | cases h
        exact ⟨o, fd, body, ns, kt_get Z e, sameB_eq x8, hd, codeOk_rec Z x7, hb, List.isEmpty_iff.mp x2, Nat.eq_of_beq_eq_true x3, Nat.eq_of_beq_eq_true x4, none_of x5, none_of x6, x1⟩
      · cases x
    · cases x
  · cases x
theorem fnsAt_get {N : Names} {t : Addr → Option Obj} : ∀ {fns : List Addr} {fs : List MFun} {nss : List (List Str)}, fnsAt N t fns fs nss = true → fns.length = fs.length ∧ ∀ (k : Nat) (a : Addr) (f : MFun), fns[k]? = some a → fs[k]? = some f → ∃ ns, fnAt N t a f ns = true
  | [], [], [], _ => ⟨rfl, fun k a f h _ => by simp at h⟩
  | a :: as, f :: fs, ns :: nss, h => by
    have h := And.intro (an1 h) (an2 h)
    obtain ⟨l, r⟩ := fnsAt_get h.2
    refine ⟨by simp [l], fun k b g h1 h2 => ?_⟩
    cases k with
    | zero => simp at h1 h2; subst h1 h2; exact ⟨ns, h.1⟩
    | succ k => exact r k b g (by simpa using h1) (by simpa using h2)
  | [], [], _ :: _, h => by cases (show false = true from h)
  | [], _ :: _, _, h => by cases (show false = true from h)
  | _ :: _, [], _, h => by cases (show false = true from h)
  | _ :: _, _ :: _, [], h => by cases (show false = true from h)

set_option tactic.hygienic true in
theorem noObj_eq {y : Str} (h : noObj y = true) : typeLookup (.type "object") y = pure none := by
  unfold noObj at h
  rw [typeLookup_type, builtinLookup_eq_fast]
  split at h
  · rename_i e; rw [e]
  · cases h
theorem anyObj_eq {y : Str} (h : anyObj y = true) : ∃ r, typeLookup (.type "object") y = pure r := by
  obtain ⟨r, e⟩ := Option.isSome_iff_exists.mp h
  exact ⟨r, by rw [typeLookup_type, builtinLookup_eq_fast, e]⟩
set_option tactic.hygienic true in
theorem isFn_eq {h : Heap} {t : Addr → Option Obj} (Z : Has h t) {a : Nat} (x : isFn t a = true) : ∃ o fd, h.get? a = some o ∧ o.cls = .type "function" ∧ o.data = .func fd := by
  unfold isFn at x
  split at x
  · rename_i o e
    rw [Bool.and_eq_true] at x
    obtain ⟨x1, x2⟩ := x
    split at x2
    · rename_i fd hd
      exact ⟨o, fd, kt_get Z e, sameB_eq x1, hd⟩
    · cases x2
  · cases x
set_option tactic.hygienic true in
theorem clsAt_ok {cx : Cx} {N : Names} {t : Addr → Option Obj} (Z : Has cx.h₀ t) {c : Nat} {v : Value} (x : clsAt t N cx.T cx.attrs cx.fns c v = true) : ∃ C, v = .ref C ∧ ClsOk cx N c C := by
  unfold clsAt at x
  split at x
  · rename_i C
    refine ⟨C, rfl, ?_⟩
    split at x
    · rename_i o e
      split at x
      · rename_i cd hd
        simp only [Bool.and_eq_true, Bool.not_eq_true', decide_eq_true_eq] at x
        obtain ⟨⟨⟨⟨⟨⟨x1, x2⟩, x3⟩, x4⟩, x5⟩, x6⟩, x7⟩ := x
        split at x6
        · rename_i p hp hs
          split at x7
          · rename_i on en
            split at x7
            · rename_i es ep hes
              unfold nsCls at x7
              simp only [Bool.and_eq_true, Option.isNone_iff_eq_none] at x7
              obtain ⟨⟨⟨⟨⟨y1, y2⟩, y3⟩, y4⟩, y5⟩, y6⟩ := x7
              have hslot : p.2.2.2.2.1 = some (.builtin "object.__new__") := by
                unfold newSlot at x6
                split at x6
                · rename_i w hw; rw [hw, sameB_eq x6]
                · cases x6
              obtain ⟨k0, k1, k2, k3, k4, k5⟩ := p
              dsimp only at hslot hp
              subst hslot
              have ho : o = excClassObj cd.name cd.qualname C cd.ns cd.bases [.type "object"] true cd.slotNames cd.subclasses false cd.collection o.dict k0 k1 k2 k3 k5 "object.__new__" := by
                obtain ⟨oc, od, odata, oslots⟩ := o
                obtain ⟨cn, cb, cm, cns, cq, chd, csn, csub, cab, ccol, cdel⟩ := cd
                dsimp only at hd hp x1 x2 x3 x4 x5 ⊢
                subst hd x2 x3 x4 x5
                rw [sameB_eq x1]
                congr 1
                exact Array.toList_inj.mp hp
              refine ⟨cd.name, cd.qualname, cd.ns, cd.bases, cd.slotNames, cd.subclasses, cd.collection, o.dict, k0, k1, k2, k3, k5, fun z => nsFind es z, by rw [← ho]; exact kt_get Z e, ⟨on, es, ep, kt_get Z en, hes, ?_, fun _ => rfl⟩, y2, y3, y4, ?_, ?_⟩
              · intro en hen
                have := List.all_eq_true.mp y1 en (Array.mem_toList_iff.mpr hen)
                unfold strKey at this
                split at this
                · rename_i a b hk; exact ⟨a, b, hk⟩
                · cases this
              · intro n z hz
                have := List.all_eq_true.mp y5 z (List.mem_of_getElem? hz)
                simp only [Bool.and_eq_true, Option.isNone_iff_eq_none] at this
                exact ⟨this.1, noObj_eq this.2⟩
              · intro z m k hz hk
                have := List.all_eq_true.mp y6 (z, m) (mem_of_lookup hz)
                dsimp only at this
                rw [hk] at this
                dsimp only at this
                split at this
                · rename_i fa w hfa hw
                  simp only [Bool.and_eq_true, Bool.not_eq_true'] at this
                  obtain ⟨⟨⟨z1, z2⟩, z3⟩, z4⟩ := this
                  obtain ⟨fo, fd, f1, f2, f3⟩ := isFn_eq Z z2
                  refine ⟨fa, fo, fd, hfa, by show nsFind es z = _; rw [hw, ← sameB_eq z1], f1, f2, f3, fun n hn => ?_, anyObj_eq z4⟩
                  rw [List.contains_eq_mem, decide_eq_false_iff_not] at z3
                  exact z3 (List.mem_of_getElem? hn)
                · cases this
            · cases x7
          · cases x7
        · cases x6
      · cases x
    · cases x
  · cases x
theorem clssAt_get {N : Names} {T : Tab} {t : Addr → Option Obj} {attrs : List Str} {fns : List Addr} : ∀ {l : List Value} {c i : Nat} {v : Value}, clssAt t N T attrs fns c l = true → l[i]? = some v → (T.meth (c + i) 0).isSome = true → clsAt t N T attrs fns (c + i) v = true
  | [], _, i, _, _, h, _ => by simp at h
  | w :: ws, c, i, v, x, h, hm => by
    have x := And.intro (Bool.or_eq_true _ _ |>.mp (an1 x)) (an2 x)
    cases i with
    | zero =>
      simp at h; subst h
      rcases x.1 with q | q
      · rw [Nat.add_zero, Option.isSome_iff_ne_none] at hm
        exact absurd (Option.isNone_iff_eq_none.mp q) hm
      · exact q
    | succ i =>
      have e : c + (i + 1) = c + 1 + i := by omega
      rw [e] at hm ⊢
      exact clssAt_get x.2 (by simpa using h) hm
set_option tactic.hygienic true in
theorem clsBase_of {cx : Cx} {N : Names} {t : Addr → Option Obj} (Z : Has cx.h₀ t) (h1 : clssAt t N cx.T cx.attrs cx.fns 0 cx.cls = true) (h2 : attrsOk N cx.attrs = true) : ClsBase cx N := by
  unfold attrsOk at h2
  simp only [Bool.and_eq_true, decide_eq_true_eq] at h2
  obtain ⟨⟨⟨a1, a2⟩, a3⟩, a4⟩ := h2
  have get : ∀ (c : Nat) (v : Value), cx.cls[c]? = some v → (cx.T.meth c 0).isSome = true → ∃ C, v = .ref C ∧ ClsOk cx N c C := fun c v hc hm => by
    have := clssAt_get h1 hc (by rw [Nat.zero_add]; exact hm)
    rw [Nat.zero_add] at this
    exact clsAt_ok Z this
  refine ⟨fun y n h => ?_, fun i j y hi hj => ?_, by rw [sizeLine_eq]; omega, hasNo_eq a4, fun c v hc hm => ?_, fun c C hc hm => ?_⟩
  · have := List.all_eq_true.mp a1 (y, n) (mem_of_lookup h)
    dsimp only at this
    split at this
    · rename_i z hz; rw [hz, of_decide_eq_true this]
    · cases this
  · exact nodupS_inj a2 i j y (by rw [List.getElem?_map, hi]; rfl) (by rw [List.getElem?_map, hj]; rfl)
  · obtain ⟨C, e, _⟩ := get c v hc hm
    exact ⟨C, e⟩
  · obtain ⟨C', e, k⟩ := get c (.ref C) hc hm
    cases e; exact k
/-! ## classes of exceptions -/
noncomputable def fragOf (t : Addr → Option Obj) : List Addr → PySem.W.Frag
  | [] => []
  | a :: as => match t a with
    | some o => (a, o) :: fragOf t as
    | none => fragOf t as
set_option tactic.hygienic true in
theorem frag_in {h : Heap} {t : Addr → Option Obj} (Z : Has h t) : ∀ as, (fragOf t as).In h
  | [] => fun a o e => by cases e
  | a :: as => fun b o e => by
    have e : (match t a with | some o => (a, o) :: fragOf t as | none => fragOf t as).lookup b = some o := e
    split at e
    · rename_i o' ho
      simp only [List.lookup] at e
      split at e
      · rename_i q; cases e; rw [beq_iff_eq.mp q]; exact kt_get Z ho
      · exact frag_in Z as b o e
    · exact frag_in Z as b o e
noncomputable def clsPair (t : Addr → Option Obj) (v : Value) : List Addr := match v with
  | .ref a => (match t a with
    | some o => (match o.data with
      | .cls cd => [a, cd.ns]
      | _ => [])
    | none => [])
  | _ => []
noncomputable def nsNoInit (t : Addr → Option Obj) (a : Addr) : Bool := match t a with
  | some on => (match on.data with
    | .dict es _ => (es.toList.all fun e => strKey e.key) && (nsFind es "__init__").isNone
    | _ => false)
  | none => false
set_option tactic.hygienic true in
theorem nsNoInit_ok {h : Heap} {t : Addr → Option Obj} (Z : Has h t) {a : Addr} (x : nsNoInit t a = true) : ∃ m, h.Ns a m ∧ m "__init__" = none := by
  unfold nsNoInit at x
  split at x
  · rename_i on en
    split at x
    · rename_i es ep hes
      rw [Bool.and_eq_true] at x
      refine ⟨fun z => nsFind es z, ⟨on, es, ep, kt_get Z en, hes, fun e he => ?_, fun _ => rfl⟩, Option.isNone_iff_eq_none.mp x.2⟩
      have := List.all_eq_true.mp x.1 e (Array.mem_toList_iff.mpr he)
      unfold strKey at this
      split at this
      · rename_i a b hk; exact ⟨a, b, hk⟩
      · cases this
    · cases x
  · cases x
noncomputable def ownNo (t : Addr → Option Obj) (v : Value) : Bool := match v with
  | .ref a => (match t a with
    | some o => (match o.data with
      | .cls cd => nsNoInit t cd.ns
      | _ => false)
    | none => false)
  | _ => false
set_option tactic.hygienic true in
theorem ownNo_ok {h : Heap} {t : Addr → Option Obj} (Z : Has h t) {v : Value} {bm tl : List Value} (x : ownNo t v = true) (T : OwnTail h bm tl) : OwnTail h bm (v :: tl) := by
  unfold ownNo at x
  split at x
  · split at x
    · rename_i o e
      split at x
      · rename_i cd hd
        obtain ⟨m, n, i⟩ := nsNoInit_ok Z x
        obtain ⟨oc, od, odata, oslots⟩ := o
        dsimp only at hd
        subst hd
        exact .own (kt_get Z e) n i T
      · cases x
    · cases x
  · cases x
noncomputable def tailOk (t : Addr → Option Obj) : List Value → Bool
  | [] => false
  | v :: vs => decide (v :: vs = mroV) || (ownNo t v && tailOk t vs)
theorem tailOk_ok {h : Heap} {t : Addr → Option Obj} (Z : Has h t) : ∀ {vs : List Value}, tailOk t vs = true → OwnTail h mroV vs
  | [], x => by cases (show false = true from x)
  | v :: vs, x => by
    rcases (Bool.or_eq_true _ _).mp x with q | q
    · rw [of_decide_eq_true q]; exact .base
    · exact ownNo_ok Z (an1 q) (tailOk_ok Z (an2 q))
noncomputable def subsAt (T : Tab) (K : PySem.W.Frag) (C : Addr) (bm : List Value) (c : Nat) : Nat → List Value → Bool
  | _, [] => true
  | d, D :: Ds => (clsVal K D && decide (T.sub c d = (Value.ref C :: bm).contains D) && decide (PySem.W.mroIn K C D = some (T.sub c d))) && subsAt T K C bm c (d + 1) Ds
theorem subsAt_get {T : Tab} {K : PySem.W.Frag} {C : Addr} {bm : List Value} {c : Nat} : ∀ {l : List Value} {d i : Nat} {D : Value}, subsAt T K C bm c d l = true → l[i]? = some D → clsVal K D = true ∧ T.sub c (d + i) = (Value.ref C :: bm).contains D ∧ PySem.W.mroIn K C D = some (T.sub c (d + i))
  | [], _, i, _, _, h => by simp at h
  | w :: ws, d, i, D, x, h => by
    cases i with
    | zero =>
      simp at h; subst h
      have y := an1 x
      exact ⟨an1 (an1 y), of_decide_eq_true (an2 (an1 y)), of_decide_eq_true (an2 y)⟩
    | succ i =>
      have e : d + (i + 1) = d + 1 + i := by omega
      rw [e]
      exact subsAt_get (an2 x) (by simpa using h)
noncomputable def excK (K : PySem.W.Frag) (D : Addr) : Bool :=
  decide (PySem.W.findIn K (.ref D) "__getattribute__" = some (some (.builtin "BaseException.__getattribute__"))) && decide (PySem.W.findIn K (.ref D) "__getattr__" = some none) && decide (PySem.W.mroIn K D (.type "BaseException") = some true) &&
  PySem.W.hasDictIn K D && decide (PySem.W.findIn K (.ref D) "__class__" = some (some (.builtin "object.__class__"))) &&
  decide (PySem.W.specialIn K (.builtin "object.__class__") "__get__" = some (some (.builtin "getset_descriptor.__get__"))) && decide (PySem.W.takesIn K (.builtin "object.__class__") = some true) && decide (PySem.W.mroIn K D (.type "object") = some true)
theorem excK_ok {K : PySem.W.Frag} {D : Addr} (x : excK K D = true) : ExcK K D :=
  have x1 := an1 (an1 (an1 (an1 x)))
  ⟨of_decide_eq_true (an1 (an1 (an1 x1))), of_decide_eq_true (an2 (an1 (an1 x1))), of_decide_eq_true (an2 (an1 x1)), an2 x1, of_decide_eq_true (an2 (an1 (an1 (an1 x)))), of_decide_eq_true (an2 (an1 (an1 x))), of_decide_eq_true (an2 (an1 x)), of_decide_eq_true (an2 x)⟩
noncomputable def valNew (o : Option Value) : Bool := match o with
  | some v => sameB v (.builtin "ValueError.__new__")
  | none => false
noncomputable def excAt (t : Addr → Option Obj) (T : Tab) (cls : List Value) (c : Nat) (v : Value) : Bool := match v with
  | .ref C => (match t C with
    | some o => (match o.data with
      | .cls cd => sameB o.cls (.type "type") && decide (cd.mro = .ref C :: cd.mro.tail) && !cd.hasDel && (match slots6 o.slots.toList with
        | some ⟨p, _⟩ => valNew p.2.2.2.2.1
        | none => false) && nsNoInit t cd.ns && tailOk t cd.mro.tail && subsAt T (fragOf t ((cls ++ cd.mro).flatMap (clsPair t))) C cd.mro.tail c 0 cls && excK (fragOf t ((cls ++ cd.mro).flatMap (clsPair t))) C
      | _ => false)
    | none => false)
  | _ => false
noncomputable def excsAt (t : Addr → Option Obj) (T : Tab) (cls : List Value) : Nat → List Value → Bool
  | _, [] => true
  | c, v :: vs => (!T.isExc c || excAt t T cls c v) && excsAt t T cls (c + 1) vs
noncomputable def excsOk (t : Addr → Option Obj) (T : Tab) (cls : List Value) : Bool := excsAt t T cls 0 cls && decide (T.subs.length ≤ cls.length)
set_option tactic.hygienic true in
theorem excAt_ok {cx : Cx} {t : Addr → Option Obj} (Z : Has cx.h₀ t) {c : Nat} {v : Value} (x : excAt t cx.T cx.cls c v = true) : ∃ C, v = .ref C ∧ ExcOk cx c C := by
  unfold excAt at x
  split at x
  · rename_i C
    refine ⟨C, rfl, ?_⟩
    split at x
    · rename_i o e
      split at x
      · rename_i cd hd
        have x8 := excK_ok (an2 x)
        have x7 := an2 (an1 x)
        have x6 := tailOk_ok Z (an2 (an1 (an1 x)))
        obtain ⟨m, n, i⟩ := nsNoInit_ok Z (an2 (an1 (an1 (an1 x))))
        have x4 := an2 (an1 (an1 (an1 (an1 x))))
        have x := an1 (an1 (an1 (an1 (an1 x))))
        have x3 : cd.hasDel = false := (Bool.not_eq_true' _).mp (an2 x)
        have x2 := of_decide_eq_true (an2 (an1 x))
        have x1 := sameB_eq (an1 (an1 x))
        clear x
        split at x4
        · rename_i p hp hs
          have hslot : p.2.2.2.2.1 = some (.builtin "ValueError.__new__") := by
            unfold valNew at x4
            split at x4
            · rename_i w hw; rw [hw, sameB_eq x4]
            · cases x4
          clear x4
          obtain ⟨k0, k1, k2, k3, k4, k5⟩ := p
          dsimp only at hslot hp
          subst hslot
          have ho : o = excClassObj cd.name cd.qualname C cd.ns cd.bases cd.mro.tail cd.hasDict cd.slotNames cd.subclasses cd.abstract cd.collection o.dict k0 k1 k2 k3 k5 "ValueError.__new__" := by
            clear x6 x7 x8
            obtain ⟨oc, od, odata, oslots⟩ := o
            obtain ⟨cn, cb, cm, cns, cq, chd, csn, csub, cab, ccol, cdel⟩ := cd
            dsimp only at hd hp x1 x2 x3 ⊢
            subst hd x1 x3
            unfold excClassObj
            rw [← x2]
            congr 1
            exact Array.toList_inj.mp hp
          refine ⟨⟨cd.name, cd.qualname, cd.ns, cd.bases, cd.mro.tail, cd.hasDict, cd.slotNames, cd.subclasses, cd.abstract, cd.collection, o.dict, k0, k1, k2, k3, k5, m, by rw [← ho]; exact kt_get Z e, n, i, x6, fun d D hD => ?_⟩, ⟨_, frag_in Z _, x8, fun d D hD => ?_⟩⟩
          · have := (subsAt_get x7 hD).2.1
            rwa [Nat.zero_add] at this
          · have := subsAt_get x7 hD
            rw [Nat.zero_add] at this
            exact ⟨this.1, this.2.2⟩
        · cases x4
      · cases x
    · cases x
  · cases x
theorem excsAt_get {t : Addr → Option Obj} {T : Tab} {cls : List Value} : ∀ {l : List Value} {c i : Nat} {v : Value}, excsAt t T cls c l = true → l[i]? = some v → T.isExc (c + i) = true → excAt t T cls (c + i) v = true
  | [], _, i, _, _, h, _ => by simp at h
  | w :: ws, c, i, v, x, h, hm => by
    cases i with
    | zero =>
      simp at h; subst h
      rcases (Bool.or_eq_true _ _).mp (an1 x) with q | q
      · have hm : T.isExc c = true := hm
        rw [hm] at q; cases q
      · exact q
    | succ i =>
      have e : c + (i + 1) = c + 1 + i := by omega
      rw [e] at hm ⊢
      exact excsAt_get (an2 x) (by simpa using h) hm
theorem isExc_lt {T : Tab} {c : Nat} (h : T.isExc c = true) : c < T.subs.length := by
  have h : 2 ≤ ((T.subs[c]?).getD []).length := of_decide_eq_true (an2 h)
  cases q : T.subs[c]? with
  | none => rw [q] at h; cases (show 2 ≤ 0 from h)
  | some l => exact (List.getElem?_eq_some_iff.mp q).1
theorem excs_base {cx : Cx} {t : Addr → Option Obj} (Z : Has cx.h₀ t) (x : excsOk t cx.T cx.cls = true) (c : Nat) (h : cx.T.isExc c = true) : ∃ C, cx.cls[c]? = some (.ref C) ∧ ExcOk cx c C := by
  have lt : c < cx.cls.length := Nat.lt_of_lt_of_le (isExc_lt h) (of_decide_eq_true (an2 x))
  have e := List.getElem?_eq_getElem lt
  have y := excsAt_get (an1 x) e (by rw [Nat.zero_add]; exact h)
  rw [Nat.zero_add] at y
  obtain ⟨C, q, k⟩ := excAt_ok Z y
  exact ⟨C, by rw [e, q], k⟩
theorem lookup_all {α : Type} {l : List (Str × α)} {p : Str × α → Bool} (h : l.all p = true) {x : Str} {k : α} (e : l.lookup x = some k) : p (x, k) = true := List.all_eq_true.mp h _ (mem_of_lookup e)

/- what the head gives -/
set_option tactic.hygienic true in
theorem base_of {cx : Cx} {N : Names} {t : Addr → Option Obj} {nss : List (List Str)} {mg mb : Str → Option Value} (Z : Has cx.h₀ t) (g : cx.h₀.Ns mainGlobals mg) (b : cx.h₀.Ns builtinsNs mb) (hb : ∀ x : Str, x ≠ "__name__" → mb x = bootBuiltins x) (lim : cx.h₀.NoLimit)
    (ok : headOk t N cx.T cx.cls cx.fns nss = true) (okc : clssAt t N cx.T cx.attrs cx.fns 0 cx.cls = true) (oka : attrsOk N cx.attrs = true) (okx : excsOk t cx.T cx.cls = true) : Base cx N ∧ ∀ (f : Nat) (a : Addr), cx.fns[f]? = some a → ∃ g, cx.T.funs[f]? = some g := by
  unfold headOk at ok
  rw [Bool.and_eq_true] at ok
  obtain ⟨ok1, ok2⟩ := ok
  obtain ⟨hlen, hfn⟩ := fnsAt_get ok2
  refine ⟨⟨⟨mg, mb, g, b, ?_⟩, lim, fun k a f h1 h2 => ?_, clsBase_of Z okc oka, excs_base Z okx⟩, fun f a h => ?_⟩
  · split at ok1
    · rename_i o e
      split at ok1
      · rename_i es ep hd
        have hmg : ∀ x, mg x = nsFind es x := by
          obtain ⟨o', es', ep', e', d', _, h'⟩ := g
          rw [kt_get Z e] at e'; cases e'
          rw [hd] at d'; cases d'
          exact fun x => (h' x).symm
        unfold topOk at ok1
        simp only [Bool.and_eq_true] at ok1
        obtain ⟨⟨⟨c1, c2⟩, c3⟩, c4⟩ := ok1
        refine ⟨fun x k h => ?_, fun x k h => ?_, fun x c h => ?_, fun p hp => ?_⟩
        · have := lookup_all c1 h
          simp only at this
          split at this
          · rename_i a v h1 h2
            exact ⟨a, h1, by rw [hmg, h2, ← sameB_eq this]⟩
          · cases this
        · have := lookup_all c2 h
          simp only at this
          split at this
          · rename_i m v h1 h2
            exact ⟨m, v, h1, by rw [hmg, h2], fun ρ h => litOk_vr this⟩
          · cases this
        · have := lookup_all c3 h
          simp only at this
          split at this
          · rename_i c' v h1 h2
            exact ⟨c', h1, .inl (by rw [hmg, h2, ← sameB_eq this])⟩
          · rename_i c' h1 h2
            split at this
            · rename_i v h3
              simp only [Bool.and_eq_true, Bool.not_eq_true', decide_eq_false_iff_not] at this
              exact ⟨c', h1, .inr ⟨by rw [hmg, h2], by rw [hb _ this.2, h3, ← sameB_eq this.1]⟩⟩
            · cases this
          · cases this
        · have := List.all_eq_true.mp c4 p hp
          simp only [Bool.and_eq_true, Option.isNone_iff_eq_none, Bool.not_eq_true', decide_eq_false_iff_not] at this
          obtain ⟨⟨h1, h2⟩, h3⟩ := this
          split at h3
          · rename_i v h4
            exact ⟨by rw [hmg, h1], by rw [hb _ h2, h4, ← sameB_eq h3]⟩
          · cases h3
      · cases ok1
    · cases ok1
  · obtain ⟨ns, h⟩ := hfn k a f h1 h2
    exact fnAt_ok Z h
  · have lt : f < cx.T.funs.length := by rw [← hlen]; exact (List.getElem?_eq_some_iff.mp h).1
    exact ⟨_, List.getElem?_eq_getElem lt⟩

theorem ns_same {h : Heap} {a : Addr} {m m' : Str → Option Value} (x : h.Ns a m) (y : h.Ns a m') (n : Str) : m n = m' n := by
  obtain ⟨o, es, ep, e, d, _, f⟩ := x
  obtain ⟨o', es', ep', e', d', _, f'⟩ := y
  rw [e] at e'; cases e'
  rw [d] at d'; cases d'
  rw [← f n, f' n]
theorem vrs_script {cx : Cx} {ρ : Rho} {h : Heap} : ∀ {vs : List Value} {ns : List Int}, PyProof.Rows.IntsAre vs ns → VRs cx ρ h (ns.map .int) vs
  | [], [], _ => .nil
  | _ :: _, _ :: _, .cons n tk r => .cons (.int n tk) (vrs_script r)

/- from the head to the end -/
theorem finish {prog : Program} {w : World} {N : Names} {t : Addr → Option Obj} {T : Tab} {cls : List Value} {attrs : List Str} {fns : List Addr} {nss : List (List Str)} {s₁ : Shared} {mg mb : Str → Option Value} {ns : List Int} {vs : List Value} {fa a : Addr} {k d : Nat} {Q : Value → Shared → Prop} {E : Value → Shared → Prop}
    (Z : Has s₁.heap t) (g : s₁.heap.Ns mainGlobals mg) (b : s₁.heap.Ns builtinsNs mb) (hb : ∀ x : Str, x ≠ "__name__" → mb x = bootBuiltins x) (lim : s₁.heap.NoLimit) (ok : headOk t N T cls fns nss = true) (okc : clssAt t N T attrs fns 0 cls = true) (oka : attrsOk N attrs = true) (okx : excsOk t T cls = true) (hsys : (t sysModules).isSome = true)
    (hobj : s₁.heap.get? a = some (listO vs 0)) (hI : PyProof.Rows.IntsAre vs ns) (hlen : ns.length ≤ 63) (hf : mg "law" = some (.ref fa)) (hk : N.funs.lookup ("law" : Str) = some k) (room : Room callerA d)
    (hlaw : ∃ H', callF T d k [.script ns] [] = .ok (.bool true) H')
    (kq : ∀ s', (∀ b o, s₁.heap.get? b = some o → s'.heap.get? b = some o) → s'.os = s₁.os → s'.gens = s₁.gens → Q (.bool true) s') :
    wpAny (model prog w) callerA (call (.ref fa) [.ref a]) Q E s₁ := by
  obtain ⟨B, defs⟩ := base_of (cx := ⟨prog, w, T, s₁, cls, attrs, fns⟩) (N := N) (nss := nss) Z g b hb lim ok okc oka okx
  obtain ⟨mg', mb', g', b', q, _⟩ := B.ns
  obtain ⟨a', ha', hx⟩ := q "law" k hk
  have e : fa = a' := by
    have := ns_same g g' "law"
    rw [hf, hx] at this
    cases this; rfl
  subst e
  obtain ⟨o1, e1⟩ := Option.isSome_iff_exists.mp hsys
  have R : Rel ⟨prog, w, T, s₁, cls, attrs, fns⟩ [] [] s₁ :=
    ⟨rfl, fun l o p h _ => by simp at h, fun i j p q _ h _ => by simp at h, fun p hp => by simp at hp, fun _ _ e => e, ⟨o1, kt_get Z e1⟩, ⟨s₁.heap, s₁.toks, rfl⟩⟩
  obtain ⟨H', hH⟩ := hlaw
  have x := funs_ok B defs d k fa [.script ns] [.ref a] callerA [] ha' room.toF rfl [] [] s₁ R ⟨.cons (.script hobj (by rw [sizeLine_eq]; omega) (vrs_script hI)) .nil, fun en he => by cases he⟩
  show wpAny (model prog w) callerA (call (.ref fa) [.ref a]) Q E s₁
  change SimAt _ callerA (callF T d k [.script ns] []) _ _ _ _ at x
  rw [hH] at x
  refine wpAny_mono x (fun v s' ⟨ρ', F, R', vr⟩ => ?_) fun _ _ q => q.elim
  have vr' : VR ⟨prog, w, T, s₁, cls, attrs, fns⟩ ρ' s'.heap (.bool true) v := vr
  cases vr'
  obtain ⟨h, tk, e⟩ := R'.rest
  exact kq s' R'.base (by rw [e]) (by rw [e])
end Mine

-- part MTop
namespace Mine
open PySem PySem.W PySem.Calls
/- the top's run over a tree of objects -/
noncomputable def topRunT (tb : String → Option Builtin) (p : Program) (w : World) (n₀ : Nat) (ann : Option Value) : Nat → SharedT → Thread → Option SharedT
  | 0, _, _ => none
  | n + 1, s, t => match through t with
    | true => some s
    | false => match stepOk n₀ ann t with
      | false => none
      | true => match stepT (denote tb) p w s t with
        | some (s', t') => topRunT tb p w n₀ ann n s' t'
        | none => none
theorem topRun_ofT {tb : String → Option Builtin} {p : Program} {w : World} {n₀ : Nat} {ann : Option Value} : ∀ {n : Nat} {s s' : SharedT} {t : Thread}, topRunT tb p w n₀ ann n s t = some s' → topRun tb p w n₀ ann n s.abs t = some s'.abs
  | 0, _, _, _, h => by cases h
  | n + 1, s, s', t, h => by
    unfold topRunT at h
    unfold topRun
    cases ht : through t with
    | true => rw [ht] at h; cases h; rfl
    | false =>
      rw [ht] at h
      cases hk : stepOk n₀ ann t with
      | false => rw [hk] at h; cases h
      | true =>
        rw [hk] at h
        cases hs : stepT (denote tb) p w s t with
        | none => rw [hs] at h; cases h
        | some r => obtain ⟨s₂, t₂⟩ := r; rw [hs] at h; rw [stepT_spec hs]; exact topRun_ofT h
/- the same by the library's quick twins -/
noncomputable def topRunQ (p : Program) (w : World) (n₀ : Nat) (ann : Option Value) (n : Nat) : SharedT → Thread → Option SharedT :=
  @Nat.rec (fun _ => SharedT → Thread → Option SharedT) (fun _ _ => none) (fun _ ih s t => @Bool.rec (fun _ => Option SharedT)
    (@Bool.rec (fun _ => Option SharedT) none (@Option.rec (SharedT × Thread) (fun _ => Option SharedT) none (fun r => ih r.1 r.2) (PySem.W.Fast.tw10156331382660048174 (PySem.W.Fast.tw11892475500146522536 treeTable) p w s t)) (PySem.W.Fast.tw6613529449190102663 n₀ ann t)) (some s) (through t)) n
theorem topRunQ_eq {p : Program} {w : World} {n₀ : Nat} {ann : Option Value} : ∀ (n : Nat) (s : SharedT) (t : Thread), topRunQ p w n₀ ann n s t = topRunT treeTable p w n₀ ann n s t
  | 0, _, _ => rfl
  | n + 1, s, t => by
    show @Bool.rec (fun _ => Option SharedT) (@Bool.rec (fun _ => Option SharedT) none (@Option.rec (SharedT × Thread) (fun _ => Option SharedT) none (fun r => topRunQ p w n₀ ann n r.1 r.2) (PySem.W.Fast.tw10156331382660048174 (PySem.W.Fast.tw11892475500146522536 treeTable) p w s t)) (PySem.W.Fast.tw6613529449190102663 n₀ ann t)) (some s) (through t) = _
    rw [← PySem.W.Fast.te10156331382660048174, ← PySem.W.Fast.te11892475500146522536, ← PySem.W.Fast.te6613529449190102663]
    unfold topRunT
    cases through t with
    | true => rfl
    | false =>
      cases stepOk n₀ ann t with
      | false => rfl
      | true =>
        cases hs : stepT (denote treeTable) p w s t with
        | none => rfl
        | some r => obtain ⟨s₂, t₂⟩ := r; exact topRunQ_eq n s₂ t₂
/- the objects that stand when the top begins -/
noncomputable def bootT (P : Params) : BT := ((boot_heap P).objs.toList.foldl (fun (x : BT × Nat) o => (x.1.ins x.2 o, x.2 + 1)) (.nil, 0)).1
noncomputable def bootS (w : World) (os : OsState) : SharedT := ⟨bootT w.params, (boot_heap w.params).objs.size, (boot_heap w.params).life, #[], boot_drawn, boot_toks, os⟩
theorem boot_size (w : World) : ((boot_heap w.params).isNs mainGlobals && (#[] : Array GenState).size == 0, (boot_heap w.params).objs.size, (boot_heap w.params).nsMap mainGlobals "__annotations__") = (true, 11, some (.ref 6)) := by kernel_rfl
theorem bootS_abs (w : World) (os : OsState) : (bootS w os).abs = ⟨boot_heap w.params, #[], boot_drawn, boot_toks, os⟩ := by kernel_rfl
/- the top in one look -/
theorem left_of {p q : Program} {loose : List Str} {Xt : Shared → Bool} {α : Type} {Yf : Shared → α} {Ya : World → α} {N M : Nat} {g0 : Bool}
    (e : opening p = plainProg p.main.scope.names) (hN : Nat.ble 600 N = true) (f : ∀ s, fenceModules? p s = some s) (le : Nat.ble M N = true)
    (run : ∀ (w : World) (os : OsState), (topRunQ p w 11 (some (.ref 6)) M (bootS w os) (topStub p)).map (fun s => (staticsOk (importedModules p.main.body) (boot_heap w.params) s.abs.heap && namesBound p s.abs.heap && gensDone s.abs && laidKept (boot_heap w.params) s.abs.heap,
      openSeen q loose (importedModules p.main.body) Xt g0 s.abs, Yf s.abs)) = some (true, openGood q loose, Ya w)) : LeftO p q loose Xt Yf Ya N g0 := fun w => by
  obtain ⟨⟨h, gs, d, k, os⟩, e1, e'⟩ := Option.map_eq_some_iff.mp (boot_open e hN f w)
  obtain ⟨rfl, rfl, rfl, rfl⟩ : h = boot_heap w.params ∧ gs = #[] ∧ d = boot_drawn ∧ k = boot_toks := by simpa using e'
  obtain ⟨z1, z2, z3⟩ : _ ∧ _ ∧ _ := by simpa only [Prod.mk.injEq] using boot_size w
  obtain ⟨s, h1, h2⟩ := Option.map_eq_some_iff.mp (run w os)
  obtain ⟨l1, l2, l3⟩ : _ ∧ _ ∧ _ := by simpa only [Prod.mk.injEq] using h2
  rw [topRunQ_eq] at h1
  have r := topRun_ofT h1
  rw [bootS_abs] at r
  replace r := topRun_mono (N - M) _ _ _ _ r
  rw [show M + (N - M) = N by have := Nat.le_of_ble_eq_true le; omega] at r
  have t : topFrom treeTable p w N ⟨boot_heap w.params, #[], boot_drawn, boot_toks, os⟩ = some s.abs := by
    unfold topFrom
    dsimp only
    rw [z1, z2, z3, r]
    show (match staticsOk (importedModules p.main.body) (boot_heap w.params) s.abs.heap && namesBound p s.abs.heap && gensDone s.abs && laidKept (boot_heap w.params) s.abs.heap with | true => _ | false => _) = _
    rw [l1]
  unfold openEnds
  rw [e1]
  show (topFrom treeTable p w N _).map _ = _
  rw [t]
  exact congrArg some (Prod.ext l2 l3)
end Mine

-- part LB
namespace Mine.Pure
open PySem
/-! ## running the mini language by simp -/
section
variable {α β : Type} {m : M α} {f : α → M β} {H H' : Hp} {a : α} {T : Tab} {Φ : Funs} {Γ : Env'}
theorem ret_at (a : α) (H : Hp) : M.ret a H = .ok a H := rfl
theorem bad_at (H : Hp) : (M.bad : M α) H = .bad := rfl
theorem bnd_at (m : M α) (f : α → M β) (H : Hp) : (m.bnd f) H = (match m H with | .ok a H' => f a H' | .exc c H' => .exc c H' | .bad => .bad) := rfl
theorem look_at (f : Hp → Option α) (H : Hp) : M.look f H = (match f H with | some a => .ok a H | none => .bad) := rfl
theorem opt_some (a : α) : M.ofOpt (some a) = M.ret a := rfl
theorem alloc_at (o : HObj) (H : Hp) : M.alloc o H = .ok (.loc H.length) (H ++ [o]) := rfl
theorem bndS_at (m : M α) (Γ : Env') (f : α → Hp → ResS) (H : Hp) : bndS m Γ f H = (match m H with | .ok a H' => f a H' | .exc c H' => .exc c Γ H' | .bad => .bad) := rfl
theorem thenS_next (Γ : Env') (H : Hp) (f : Env' → Hp → ResS) : thenS (.next Γ H) f = f Γ H := rfl
theorem thenS_ret (v : Val) (H : Hp) (f : Env' → Hp → ResS) : thenS (.ret v H) f = .ret v H := rfl
theorem thenS_exc (c : Nat) (Γ : Env') (H : Hp) (f : Env' → Hp → ResS) : thenS (.exc c Γ H) f = .exc c Γ H := rfl
theorem truth_bool (b : Bool) : truth (.bool b) = M.ret b := rfl
theorem bf_len_script (ns : List Int) : bfV .len [.script ns] = M.ret (.int ns.length) := by
  funext H
  show (match (some (Val.int (ns.map Val.int).length) : Option Val) with | some a => Res.ok a H | none => .bad) = _
  rw [List.length_map]; rfl
theorem bf_len_tup (xs : List Val) : bfV .len [.tup xs] = M.ret (.int xs.length) := rfl
theorem bf_len_loc {l : Nat} {xs : List Val} {H : Hp} (h : H[l]? = some (.list xs)) : bfV .len [.loc l] H = .ok (.int xs.length) H := by
  have e : bfV .len [.loc l] = M.look (fun H => (itemsOf (.loc l) H).map fun xs => Val.int xs.length) := rfl
  rw [e, look_at]
  simp only [itemsOf, h, Option.map_some]
theorem bf_range (n : Int) (h : -1073741824 ≤ n ∧ n ≤ 1073741824) : bfV .range [.int n] = M.ret (.rng n) := by
  show (if -1073741824 ≤ n ∧ n ≤ 1073741824 then M.ret (Val.rng n) else .bad) = _
  rw [if_pos h]
theorem add_int (x y : Int) : binV .add (.int x) (.int y) = M.ret (.int (x + y)) := rfl
theorem sub_int (x y : Int) : binV .sub (.int x) (.int y) = M.ret (.int (x - y)) := rfl
theorem fdiv_int (x y : Int) (h : ¬ (y = 0 ∨ 1073741824 ≤ y.natAbs)) : binV .fdiv (.int x) (.int y) = M.ret (.int (Int.fdiv x y)) := by
  show (if y = 0 ∨ 1073741824 ≤ y.natAbs then M.bad else M.ret (Val.int (Int.fdiv x y))) = _
  rw [if_neg h]
theorem mod_int (x y : Int) (h : y ≠ 0) : binV .mod (.int x) (.int y) = M.ret (.int (Int.fmod x y)) := by
  show (if y = 0 then M.bad else M.ret (Val.int (Int.fmod x y))) = _
  rw [if_neg h]
theorem cmp_lt (x y : Int) (H : Hp) : cmpV .lt (.int x) (.int y) H = some (decide (x < y)) := rfl
theorem cmp_gt (x y : Int) (H : Hp) : cmpV .gt (.int x) (.int y) H = some (decide (x > y)) := rfl
theorem cmp_le (x y : Int) (H : Hp) : cmpV .le (.int x) (.int y) H = some (decide (x ≤ y)) := rfl
theorem sub_script {ns : List Int} {k : Nat} {v : Int} (h : ns[k]? = some v) : subV (.script ns) (.int k) = M.ret (.int v) := by
  have lt := (List.getElem?_eq_some_iff.mp h).1
  funext H
  have e : subV (.script ns) (.int k) = M.look (fun _ => (placeOf (k : Int) ns.length).bind fun p => (ns[p]?).map Val.int) := rfl
  have : placeOf (k : Int) ns.length = some k := by
    unfold placeOf
    rw [if_pos (by omega), if_pos (by omega)]; rfl
  rw [e, look_at, this]
  simp only [Option.bind_some, h, Option.map_some, ret_at]
theorem sub_tup {xs : List Val} {k : Nat} {v : Val} (h : xs[k]? = some v) : subV (.tup xs) (.int k) = M.ret v := by
  funext H
  have e : subV (.tup xs) (.int k) = M.look (fun _ => if 0 ≤ (k : Int) then xs[(k : Int).toNat]? else none) := rfl
  rw [e, look_at]
  simp only [if_pos (show 0 ≤ (k : Int) by omega), Int.toNat_natCast, h, ret_at]
/- a call -/
theorem call_at {d k : Nat} {g : MFun} {args : List Val} (h : T.funs[k]? = some g) (ha : args.length = g.arity) :
    callF T (d + 1) k args H = resOf (execSs T (callF T d) g.body (args.map some ++ List.replicate g.nvars none) H) := by
  rw [callF, h]
  show runF T (callF T d) g args H = _
  unfold runF
  rw [if_pos ha]
end
end Mine.Pure

-- part LW
namespace Mine.Pure
open PySem
/-! ## a small logic over the mini language -/
noncomputable def Wp {α : Type} (m : M α) (H : Hp) (Q : α → Hp → Prop) (E : Nat → Hp → Prop) : Prop :=
  match m H with
  | .ok a H' => Q a H'
  | .exc c H' => E c H'
  | .bad => False
noncomputable def WpS (r : ResS) (Q : Env' → Hp → Prop) (R : Val → Hp → Prop) (E : Nat → Env' → Hp → Prop) : Prop :=
  match r with
  | .next Γ H => Q Γ H
  | .ret v H => R v H
  | .exc c Γ H => E c Γ H
  | .bad => False
noncomputable def getV : Env' → Nat → (Val → Prop) → Prop
  | [], _, _ => False
  | some v :: _, 0, k => k v
  | none :: _, 0, _ => False
  | _ :: Γ, n + 1, k => getV Γ n k
noncomputable def asBool : Val → (Bool → Prop) → Prop
  | .bool b, k => k b
  | _, _ => False
noncomputable def getO {α : Type} : Option α → (α → Prop) → Prop
  | some a, k => k a
  | none, _ => False
noncomputable def brB : Bool → Prop → Prop → Prop
  | true, a, _ => a
  | false, _, b => b
/- no exception -/
noncomputable def NoE : Nat → Hp → Prop := fun _ _ => False
noncomputable def NoX : Nat → Env' → Hp → Prop := fun _ _ _ => False
/- an operation on two values -/
noncomputable def wpBin (op : BOp) (a b : Val) (H : Hp) (Q : Val → Hp → Prop) (E : Nat → Hp → Prop) : Prop :=
  match a, b with
  | .int x, .int y => (match op with
    | .add => Q (.int (x + y)) H
    | .sub => Q (.int (x - y)) H
    | .mul => (small x || small y) = true ∧ Q (.int (x * y)) H
    | .fdiv => ¬ (y = 0 ∨ 1073741824 ≤ y.natAbs) ∧ Q (.int (Int.fdiv x y)) H
    | .mod => ¬ (y = 0) ∧ Q (.int (Int.fmod x y)) H)
  | a, b => Wp (binV op a b) H Q E
/-! what a run must do, read off the text -/
mutual
noncomputable def wpE (T : Tab) (Φ : Funs) : ME → Env' → Hp → (Val → Hp → Prop) → (Nat → Hp → Prop) → Prop
  | .none, _, H, Q, _ => Q .none H
  | .bool b, _, H, Q, _ => Q (.bool b) H
  | .int i, _, H, Q, _ => Q (.int i) H
  | .str s, _, H, Q, _ => Q (.str s) H
  | .glob k, _, H, Q, _ => getO T.globs[k]? fun v => Q v H
  | .var i, Γ, H, Q, _ => getV Γ i fun v => Q v H
  | .bin op a b, Γ, H, Q, E => wpE T Φ a Γ H (fun x H => wpE T Φ b Γ H (fun y H => wpBin op x y H Q E) E) E
  | .neg a, Γ, H, Q, E => Wp (evalE T Φ (.neg a) Γ) H Q E
  | .not a, Γ, H, Q, E => wpE T Φ a Γ H (fun x H => asBool x fun b => Q (.bool (!b)) H) E
  | .and a b, Γ, H, Q, E => wpE T Φ a Γ H (fun x H => asBool x fun t => brB t (wpE T Φ b Γ H Q E) (Q (.bool false) H)) E
  | .or a b, Γ, H, Q, E => wpE T Φ a Γ H (fun x H => asBool x fun t => brB t (Q (.bool true) H) (wpE T Φ b Γ H Q E)) E
  | .cmp op a b, Γ, H, Q, E => wpE T Φ a Γ H (fun x H => wpE T Φ b Γ H (fun y H => getO (cmpV op x y H) fun r => Q (.bool r) H) E) E
  | .cmp2 op1 op2 a b c, Γ, H, Q, E => wpE T Φ a Γ H (fun x H => wpE T Φ b Γ H (fun y H => getO (cmpV op1 x y H) fun r => brB r (wpE T Φ c Γ H (fun z H => getO (cmpV op2 y z H) fun r => Q (.bool r) H) E) (Q (.bool false) H)) E) E
  | .sub a i, Γ, H, Q, E => wpE T Φ a Γ H (fun x H => wpE T Φ i Γ H (fun y H => Wp (subV x y) H Q E) E) E
  | .slice a lo hi, Γ, H, Q, E => wpE T Φ a Γ H (fun x H => wpO T Φ lo Γ H (fun l H => wpO T Φ hi Γ H (fun h H => Wp (sliceV x l h) H Q E) E) E) E
  | .list es, Γ, H, Q, E => wpEs T Φ es Γ H (fun vs H => Q (.loc H.length) (H ++ [.list vs])) E
  | .dict, _, H, Q, _ => Q (.loc H.length) (H ++ [.dict []])
  | .call f es, Γ, H, Q, E => wpEs T Φ es Γ H (fun vs H => Wp (Φ f vs) H Q E) E
  | .new c es, Γ, H, Q, E => getO (T.meth c 0) (fun _ => wpEs T Φ es Γ H (fun vs H => Wp (newV T Φ c vs) H Q E) E)
  | .bf f es, Γ, H, Q, E => wpEs T Φ es Γ H (fun vs H => Wp (bfV f vs) H Q E) E
  | .bm a m es, Γ, H, Q, E => wpE T Φ a Γ H (fun o H => getO (bmFits m o H) fun _ => wpEs T Φ es Γ H (fun vs H => Wp (bmV m o vs) H Q E) E) E
  | .isinst a t, Γ, H, Q, E => wpE T Φ a Γ H (fun x H => Wp (isinstV T x t) H Q E) E
  | .comp elt it cond, Γ, H, Q, E => Wp (evalE T Φ (.comp elt it cond) Γ) H Q E
noncomputable def wpO (T : Tab) (Φ : Funs) : MEo → Env' → Hp → (Val → Hp → Prop) → (Nat → Hp → Prop) → Prop
  | .none, _, H, Q, _ => Q .none H
  | .some e, Γ, H, Q, E => wpE T Φ e Γ H Q E
noncomputable def wpEs (T : Tab) (Φ : Funs) : MEs → Env' → Hp → (List Val → Hp → Prop) → (Nat → Hp → Prop) → Prop
  | .nil, _, H, Q, _ => Q [] H
  | .cons e es, Γ, H, Q, E => wpE T Φ e Γ H (fun v H => wpEs T Φ es Γ H (fun vs H => Q (v :: vs) H) E) E
end
mutual
noncomputable def wpS (T : Tab) (Φ : Funs) : MS → Env' → Hp → (Env' → Hp → Prop) → (Val → Hp → Prop) → (Nat → Env' → Hp → Prop) → Prop
  | .expr e, Γ, H, Q, _, E => wpE T Φ e Γ H (fun _ H => Q Γ H) fun c H => E c Γ H
  | .assign i e, Γ, H, Q, _, E => wpE T Φ e Γ H (fun v H => Q (Γ.set i (some v)) H) fun c H => E c Γ H
  | .setattr o n e, Γ, H, Q, _, E => wpE T Φ e Γ H (fun v H => wpE T Φ o Γ H (fun o H => Wp (setattrV o n v) H (fun _ H => Q Γ H) fun c H => E c Γ H) fun c H => E c Γ H) fun c H => E c Γ H
  | .setitem o i e, Γ, H, Q, _, E => wpE T Φ e Γ H (fun v H => wpE T Φ o Γ H (fun o H => wpE T Φ i Γ H (fun i H => Wp (setitemV o i v) H (fun _ H => Q Γ H) fun c H => E c Γ H) fun c H => E c Γ H) fun c H => E c Γ H) fun c H => E c Γ H
  | .ret e, Γ, H, _, R, E => wpO T Φ e Γ H R fun c H => E c Γ H
  | .ite c t f, Γ, H, Q, R, E => wpE T Φ c Γ H (fun v H => asBool v fun b => brB b (wpSs T Φ t Γ H Q R E) (wpSs T Φ f Γ H Q R E)) fun c H => E c Γ H
  | .raise c _, Γ, H, _, _, E => T.isExc c = true ∧ E c Γ H
  | .each i a b, Γ, H, Q, R, E => WpS (execS T Φ (.each i a b) Γ H) Q R E
  | .tryx a b, Γ, H, Q, R, E => WpS (execS T Φ (.tryx a b) Γ H) Q R E
noncomputable def wpSs (T : Tab) (Φ : Funs) : MSs → Env' → Hp → (Env' → Hp → Prop) → (Val → Hp → Prop) → (Nat → Env' → Hp → Prop) → Prop
  | .nil, Γ, H, Q, _, _ => Q Γ H
  | .cons s ss, Γ, H, Q, R, E => wpS T Φ s Γ H (fun Γ H => wpSs T Φ ss Γ H Q R E) R E
end
section
variable {α β : Type} {T : Tab} {Φ : Funs} {Γ : Env'} {H : Hp}
variable {Q : Val → Hp → Prop} {E : Nat → Hp → Prop} {QS : Env' → Hp → Prop} {R : Val → Hp → Prop} {ES : Nat → Env' → Hp → Prop}
theorem wp_ret {Q : α → Hp → Prop} (a : α) : Wp (M.ret a) H Q E = Q a H := rfl
theorem wp_bnd {Q : β → Hp → Prop} (m : M α) (f : α → M β) : Wp (m.bnd f) H Q E = Wp m H (fun a H' => Wp (f a) H' Q E) E := by
  unfold Wp M.bnd
  cases m H <;> rfl
theorem wp_alloc (o : HObj) : Wp (M.alloc o) H Q E = Q (.loc H.length) (H ++ [o]) := rfl
theorem Wp.mono {Q Q' : α → Hp → Prop} {E' : Nat → Hp → Prop} {m : M α} (h : Wp m H Q E) (hq : ∀ a H', Q a H' → Q' a H') (he : ∀ c H', E c H' → E' c H') : Wp m H Q' E' := by
  unfold Wp at h ⊢
  cases hm : m H with
  | ok a H' => rw [hm] at h; exact hq _ _ h
  | exc c H' => rw [hm] at h; exact he _ _ h
  | bad => rw [hm] at h; exact h
theorem Wp.then {Q Q' : α → Hp → Prop} {m : M α} (h : Wp m H Q NoE) (hq : ∀ a H', Q a H' → Q' a H') : Wp m H Q' E :=
  h.mono hq (fun _ _ f => f.elim)
theorem Wp.of_eq {Q : α → Hp → Prop} {m : M α} {a : α} {H' : Hp} (h : m H = .ok a H') (q : Q a H') : Wp m H Q E := by
  unfold Wp; rw [h]; exact q
theorem Wp.get {Q : α → Hp → Prop} {m : M α} (h : Wp m H Q NoE) : ∃ a H', m H = .ok a H' ∧ Q a H' := by
  unfold Wp at h
  cases hm : m H with
  | ok a H' => rw [hm] at h; exact ⟨a, H', rfl, h⟩
  | exc c H' => rw [hm] at h; exact h.elim
  | bad => rw [hm] at h; exact h.elim
theorem WpS.mono {r : ResS} {Q' : Env' → Hp → Prop} {R' : Val → Hp → Prop} {E' : Nat → Env' → Hp → Prop} (h : WpS r QS R ES) (hq : ∀ Γ H', QS Γ H' → Q' Γ H') (hr : ∀ v H', R v H' → R' v H') (he : ∀ c Γ H', ES c Γ H' → E' c Γ H') : WpS r Q' R' E' := by
  cases r with
  | next Γ H => exact hq _ _ h
  | ret v H => exact hr _ _ h
  | exc c Γ H => exact he _ _ _ h
  | bad => exact h
theorem wps_bnd (m : M α) (Γ : Env') (f : α → Hp → ResS) : WpS (bndS m Γ f H) QS R ES = Wp m H (fun a H' => WpS (f a H') QS R ES) (fun c H' => ES c Γ H') := by
  unfold Wp bndS
  cases m H <;> rfl
theorem wps_then (r : ResS) (f : Env' → Hp → ResS) : WpS (thenS r f) QS R ES = WpS r (fun Γ H => WpS (f Γ H) QS R ES) R ES := by
  cases r <;> rfl
theorem wp_opt {Q : α → Hp → Prop} (o : Option α) : Wp (M.ofOpt o) H Q E = getO o (fun v => Q v H) := by cases o <;> rfl
theorem wp_look {Q : α → Hp → Prop} (f : Hp → Option α) : Wp (M.look f) H Q E = getO (f H) (fun v => Q v H) := by
  unfold Wp M.look
  cases f H <;> rfl
theorem getV_get : ∀ (Γ : Env') (i : Nat) (k : Val → Prop), getV Γ i k = getO (match Γ[i]? with | some (some v) => some v | _ => none) k
  | [], i, k => by cases i <;> rfl
  | some v :: Γ, 0, k => rfl
  | none :: Γ, 0, k => rfl
  | o :: Γ, i + 1, k => by
    have : getV (o :: Γ) (i + 1) k = getV Γ i k := by cases o <;> rfl
    rw [this, getV_get Γ i k, List.getElem?_cons_succ]
theorem getV_zero (v : Val) (Γ : Env') (k : Val → Prop) : getV (some v :: Γ) 0 k = k v := rfl
theorem getV_succ (o : Option Val) (Γ : Env') (n : Nat) (k : Val → Prop) : getV (o :: Γ) (n + 1) k = getV Γ n k := by cases o <;> rfl
theorem getV_s (v : Val) (Γ : Env') (n : Nat) (k : Val → Prop) : getV (some v :: Γ) (n + 1) k = getV Γ n k := rfl
theorem getV_n (Γ : Env') (n : Nat) (k : Val → Prop) : getV (none :: Γ) (n + 1) k = getV Γ n k := rfl
theorem asBool_bool (b : Bool) (k : Bool → Prop) : asBool (.bool b) k = k b := rfl
theorem getO_some {α : Type} (a : α) (k : α → Prop) : getO (some a) k = k a := rfl
theorem getO_of {α : Type} {o : Option α} {a : α} (h : o = some a) (k : α → Prop) : getO o k = k a := by rw [h]; rfl
theorem brB_true (A B : Prop) : brB true A B = A := rfl
theorem brB_false (A B : Prop) : brB false A B = B := rfl
theorem brB_not (b : Bool) (A B : Prop) : brB (!b) A B = brB b B A := by cases b <;> rfl
theorem brB_pos {p : Prop} [Decidable p] (h : p) (A B : Prop) : brB (decide p) A B = A := by rw [decide_eq_true h]; rfl
theorem brB_neg {p : Prop} [Decidable p] (h : ¬ p) (A B : Prop) : brB (decide p) A B = B := by rw [decide_eq_false h]; rfl
theorem brB_split {p : Prop} [Decidable p] {A B : Prop} (h1 : p → A) (h2 : ¬ p → B) : brB (decide p) A B := by
  by_cases h : p
  · rw [brB_pos h]; exact h1 h
  · rw [brB_neg h]; exact h2 h
theorem brB_cases {b : Bool} {A B : Prop} (h1 : b = true → A) (h2 : b = false → B) : brB b A B := by
  cases b
  · exact h2 rfl
  · exact h1 rfl
theorem wp_truth {Q : Bool → Hp → Prop} (v : Val) : Wp (truth v) H Q E = asBool v (fun b => Q b H) := by cases v <;> rfl
theorem asBool_br (x : Val) (A B : Prop) (f : Bool → Prop) (h1 : f true = A) (h2 : f false = B) : asBool x f = asBool x (fun t => brB t A B) := by
  cases x with
  | bool b => cases b; exact h2; exact h1
  | _ => rfl
theorem getO_br (x : Option Bool) (A B : Prop) (f : Bool → Prop) (h1 : f true = A) (h2 : f false = B) : getO x f = getO x (fun t => brB t A B) := by
  cases x with
  | some b => cases b; exact h2; exact h1
  | _ => rfl
theorem wv_ite {Q : α → Hp → Prop} (p : Prop) [Decidable p] (m : M α) : Wp (if p then m else M.bad) H Q E = (p ∧ Wp m H Q E) := by
  by_cases h : p
  · rw [if_pos h]; simp [h]
  · rw [if_neg h]; simp [h]; exact fun h => h
theorem wv_ite' {Q : α → Hp → Prop} (p : Prop) [Decidable p] (m : M α) : Wp (if p then M.bad else m) H Q E = (¬ p ∧ Wp m H Q E) := by
  by_cases h : p
  · rw [if_pos h]; simp [h]; exact fun h => h
  · rw [if_neg h]; simp [h]
theorem wpBin_eq (op : BOp) (a b : Val) : Wp (binV op a b) H Q E = wpBin op a b H Q E := by
  unfold wpBin
  split
  · cases op with
    | add => rfl
    | sub => rfl
    | mul => exact wv_ite _ _
    | fdiv => exact wv_ite' _ _
    | mod => exact wv_ite' _ _
  · rfl
/-! expressions -/
theorem wp_none : wpE T Φ .none Γ H Q E = Q .none H := rfl
theorem wp_bool (b : Bool) : wpE T Φ (.bool b) Γ H Q E = Q (.bool b) H := rfl
theorem wp_int (i : Int) : wpE T Φ (.int i) Γ H Q E = Q (.int i) H := rfl
theorem wp_str (s : Str) : wpE T Φ (.str s) Γ H Q E = Q (.str s) H := rfl
theorem wp_glob (k : Nat) : wpE T Φ (.glob k) Γ H Q E = getO T.globs[k]? (fun v => Q v H) := rfl
theorem wp_var (i : Nat) : wpE T Φ (.var i) Γ H Q E = getV Γ i (fun v => Q v H) := rfl
theorem wp_bin (op : BOp) (a b : ME) : wpE T Φ (.bin op a b) Γ H Q E = wpE T Φ a Γ H (fun x H => wpE T Φ b Γ H (fun y H => wpBin op x y H Q E) E) E := rfl
theorem wp_not (a : ME) : wpE T Φ (.not a) Γ H Q E = wpE T Φ a Γ H (fun x H => asBool x fun b => Q (.bool (!b)) H) E := rfl
theorem wp_and (a b : ME) : wpE T Φ (.and a b) Γ H Q E = wpE T Φ a Γ H (fun x H => asBool x fun t => brB t (wpE T Φ b Γ H Q E) (Q (.bool false) H)) E := rfl
theorem wp_or (a b : ME) : wpE T Φ (.or a b) Γ H Q E = wpE T Φ a Γ H (fun x H => asBool x fun t => brB t (Q (.bool true) H) (wpE T Φ b Γ H Q E)) E := rfl
theorem wp_cmp (op : COp) (a b : ME) : wpE T Φ (.cmp op a b) Γ H Q E = wpE T Φ a Γ H (fun x H => wpE T Φ b Γ H (fun y H => getO (cmpV op x y H) fun r => Q (.bool r) H) E) E := rfl
theorem wp_cmp2 (op1 op2 : COp) (a b c : ME) : wpE T Φ (.cmp2 op1 op2 a b c) Γ H Q E = wpE T Φ a Γ H (fun x H => wpE T Φ b Γ H (fun y H => getO (cmpV op1 x y H) fun r => brB r (wpE T Φ c Γ H (fun z H => getO (cmpV op2 y z H) fun r => Q (.bool r) H) E) (Q (.bool false) H)) E) E := rfl
theorem wp_sub (a i : ME) : wpE T Φ (.sub a i) Γ H Q E = wpE T Φ a Γ H (fun x H => wpE T Φ i Γ H (fun y H => Wp (subV x y) H Q E) E) E := rfl
theorem wp_slice (a : ME) (lo hi : MEo) : wpE T Φ (.slice a lo hi) Γ H Q E = wpE T Φ a Γ H (fun x H => wpO T Φ lo Γ H (fun l H => wpO T Φ hi Γ H (fun h H => Wp (sliceV x l h) H Q E) E) E) E := rfl
theorem wp_oNone : wpO T Φ .none Γ H Q E = Q .none H := rfl
theorem wp_oSome (e : ME) : wpO T Φ (.some e) Γ H Q E = wpE T Φ e Γ H Q E := rfl
theorem wp_list (es : MEs) : wpE T Φ (.list es) Γ H Q E = wpEs T Φ es Γ H (fun vs H => Q (.loc H.length) (H ++ [.list vs])) E := rfl
theorem wp_dict : wpE T Φ .dict Γ H Q E = Q (.loc H.length) (H ++ [.dict []]) := rfl
theorem wp_callE (f : Nat) (es : MEs) : wpE T Φ (.call f es) Γ H Q E = wpEs T Φ es Γ H (fun vs H => Wp (Φ f vs) H Q E) E := rfl
theorem wp_new (c : Nat) (es : MEs) : wpE T Φ (.new c es) Γ H Q E = getO (T.meth c 0) (fun _ => wpEs T Φ es Γ H (fun vs H => Wp (newV T Φ c vs) H Q E) E) := rfl
theorem wp_bf (f : BF) (es : MEs) : wpE T Φ (.bf f es) Γ H Q E = wpEs T Φ es Γ H (fun vs H => Wp (bfV f vs) H Q E) E := rfl
theorem wp_bm (a : ME) (m : BM) (es : MEs) : wpE T Φ (.bm a m es) Γ H Q E = wpE T Φ a Γ H (fun o H => getO (bmFits m o H) fun _ => wpEs T Φ es Γ H (fun vs H => Wp (bmV m o vs) H Q E) E) E := rfl
theorem wp_isinst (a : ME) (t : Ty) : wpE T Φ (.isinst a t) Γ H Q E = wpE T Φ a Γ H (fun x H => Wp (isinstV T x t) H Q E) E := rfl
theorem wp_nil {Q : List Val → Hp → Prop} : wpEs T Φ .nil Γ H Q E = Q [] H := rfl
theorem wp_cons {Q : List Val → Hp → Prop} (e : ME) (es : MEs) : wpEs T Φ (.cons e es) Γ H Q E = wpE T Φ e Γ H (fun v H => wpEs T Φ es Γ H (fun vs H => Q (v :: vs) H) E) E := rfl
/-! statements -/
theorem wps_nil : wpSs T Φ .nil Γ H QS R ES = QS Γ H := rfl
theorem wps_cons (s : MS) (ss : MSs) : wpSs T Φ (.cons s ss) Γ H QS R ES = wpS T Φ s Γ H (fun Γ H => wpSs T Φ ss Γ H QS R ES) R ES := rfl
theorem wps_expr (e : ME) : wpS T Φ (.expr e) Γ H QS R ES = wpE T Φ e Γ H (fun _ H => QS Γ H) (fun c H => ES c Γ H) := rfl
theorem wps_assign (i : Nat) (e : ME) : wpS T Φ (.assign i e) Γ H QS R ES = wpE T Φ e Γ H (fun v H => QS (Γ.set i (some v)) H) (fun c H => ES c Γ H) := rfl
theorem wps_ret (e : MEo) : wpS T Φ (.ret e) Γ H QS R ES = wpO T Φ e Γ H R (fun c H => ES c Γ H) := rfl
theorem wps_ite (c : ME) (t f : MSs) : wpS T Φ (.ite c t f) Γ H QS R ES = wpE T Φ c Γ H (fun v H => asBool v fun b => brB b (wpSs T Φ t Γ H QS R ES) (wpSs T Φ f Γ H QS R ES)) (fun c H => ES c Γ H) := rfl
theorem wps_setattr (o : ME) (n : Nat) (e : ME) : wpS T Φ (.setattr o n e) Γ H QS R ES = wpE T Φ e Γ H (fun v H => wpE T Φ o Γ H (fun o H => Wp (setattrV o n v) H (fun _ H => QS Γ H) (fun c H => ES c Γ H)) (fun c H => ES c Γ H)) (fun c H => ES c Γ H) := rfl
theorem wps_setitem (o i e : ME) : wpS T Φ (.setitem o i e) Γ H QS R ES = wpE T Φ e Γ H (fun v H => wpE T Φ o Γ H (fun o H => wpE T Φ i Γ H (fun i H => Wp (setitemV o i v) H (fun _ H => QS Γ H) (fun c H => ES c Γ H)) (fun c H => ES c Γ H)) (fun c H => ES c Γ H)) (fun c H => ES c Γ H) := rfl
theorem wps_raise (c : Nat) (m : Str) : wpS T Φ (.raise c m) Γ H QS R ES = (T.isExc c = true ∧ ES c Γ H) := rfl
theorem wps_if (T : Tab) (c : Nat) (Γ : Env') (H : Hp) (Q : Env' → Hp → Prop) (R : Val → Hp → Prop) (E : Nat → Env' → Hp → Prop) : WpS (if T.isExc c = true then .exc c Γ H else .bad) Q R E = (T.isExc c = true ∧ E c Γ H) := by
  by_cases h : T.isExc c = true
  · rw [if_pos h]; simp [h]; rfl
  · rw [if_neg h]; simp [h]; exact fun x => x
theorem wpE_nx {e : ME} {Q Q' : Val → Hp → Prop} (h : ∀ v H, Q v H = Q' v H) : wpE T Φ e Γ H Q E = wpE T Φ e Γ H Q' E := congrArg (fun q => wpE T Φ e Γ H q E) (funext fun v => funext fun H => h v H)
theorem wpO_nx {e : MEo} {Q Q' : Val → Hp → Prop} (h : ∀ v H, Q v H = Q' v H) : wpO T Φ e Γ H Q E = wpO T Φ e Γ H Q' E := congrArg (fun q => wpO T Φ e Γ H q E) (funext fun v => funext fun H => h v H)
theorem Wp_nx {m : M α} {Q Q' : α → Hp → Prop} (h : ∀ v H, Q v H = Q' v H) : Wp m H Q E = Wp m H Q' E := congrArg (fun q => Wp m H q E) (funext fun v => funext fun H => h v H)
theorem getO_nx {o : Option α} {Q Q' : α → Prop} (h : ∀ v, Q v = Q' v) : getO o Q = getO o Q' := congrArg (getO o) (funext h)
theorem wpS_nx {e : MS} {Q Q' : Env' → Hp → Prop} (h : ∀ v H, Q v H = Q' v H) : wpS T Φ e Γ H Q R ES = wpS T Φ e Γ H Q' R ES := congrArg (fun q => wpS T Φ e Γ H q R ES) (funext fun v => funext fun H => h v H)
end
/-! the two readings are one -/
mutual
theorem wpE_eq (T : Tab) (Φ : Funs) : ∀ (e : ME) (Γ : Env') (H : Hp) (Q : Val → Hp → Prop) (E : Nat → Hp → Prop), Wp (evalE T Φ e Γ) H Q E = wpE T Φ e Γ H Q E
  | .none, _, _, _, _ => rfl
  | .bool _, _, _, _, _ => rfl
  | .int _, _, _, _, _ => rfl
  | .str _, _, _, _, _ => rfl
  | .glob k, _, H, Q, E => wp_opt _
  | .var i, Γ, H, Q, E => (wp_opt _).trans (getV_get Γ i fun v => Q v H).symm
  | .bin op a b, Γ, H, Q, E => (wp_bnd _ _).trans ((wpE_eq T Φ a Γ H _ E).trans ((wpE_nx fun x H => (wp_bnd _ _).trans ((wpE_eq T Φ b Γ H _ E).trans (wpE_nx fun y H => wpBin_eq op x y))).trans (wp_bin op a b).symm))
  | .neg _, _, _, _, _ => rfl
  | .not a, Γ, H, Q, E => (wp_bnd _ _).trans ((wpE_eq T Φ a Γ H _ E).trans ((wpE_nx fun x H => (wp_bnd _ _).trans (wp_truth x)).trans (wp_not a).symm))
  | .and a b, Γ, H, Q, E => (wp_bnd _ _).trans ((wpE_eq T Φ a Γ H _ E).trans ((wpE_nx fun x H => (wp_bnd _ _).trans ((wp_truth x).trans (asBool_br _ _ _ _ (wpE_eq T Φ b Γ H Q E) rfl))).trans (wp_and a b).symm))
  | .or a b, Γ, H, Q, E => (wp_bnd _ _).trans ((wpE_eq T Φ a Γ H _ E).trans ((wpE_nx fun x H => (wp_bnd _ _).trans ((wp_truth x).trans (asBool_br _ _ _ _ rfl (wpE_eq T Φ b Γ H Q E)))).trans (wp_or a b).symm))
  | .cmp op a b, Γ, H, Q, E => (wp_bnd _ _).trans ((wpE_eq T Φ a Γ H _ E).trans ((wpE_nx fun x H => (wp_bnd _ _).trans ((wpE_eq T Φ b Γ H _ E).trans (wpE_nx fun y H => (wp_bnd _ _).trans (wp_look _)))).trans (wp_cmp op a b).symm))
  | .cmp2 op1 op2 a b c, Γ, H, Q, E => (wp_bnd _ _).trans ((wpE_eq T Φ a Γ H _ E).trans ((wpE_nx fun x H => (wp_bnd _ _).trans ((wpE_eq T Φ b Γ H _ E).trans (wpE_nx fun y H => (wp_bnd _ _).trans ((wp_look _).trans (getO_br _ _ _ _ ((wp_bnd _ _).trans ((wpE_eq T Φ c Γ H _ E).trans (wpE_nx fun z H => (wp_bnd _ _).trans (wp_look _)))) rfl))))).trans (wp_cmp2 op1 op2 a b c).symm))
  | .sub a i, Γ, H, Q, E => (wp_bnd _ _).trans ((wpE_eq T Φ a Γ H _ E).trans ((wpE_nx fun x H => (wp_bnd _ _).trans (wpE_eq T Φ i Γ H _ E)).trans (wp_sub a i).symm))
  | .slice a lo hi, Γ, H, Q, E => (wp_bnd _ _).trans ((wpE_eq T Φ a Γ H _ E).trans ((wpE_nx fun x H => (wp_bnd _ _).trans ((wpO_eq T Φ lo Γ H _ E).trans (wpO_nx fun l H => (wp_bnd _ _).trans (wpO_eq T Φ hi Γ H _ E)))).trans (wp_slice a lo hi).symm))
  | .list es, Γ, H, Q, E => (wp_bnd _ _).trans ((wpEs_eq T Φ es Γ H _ E).trans rfl)
  | .dict, _, _, _, _ => rfl
  | .call f es, Γ, H, Q, E => (wp_bnd _ _).trans (wpEs_eq T Φ es Γ H _ E)
  | .new c es, Γ, H, Q, E => by
    have h : evalE T Φ (.new c es) Γ = (match T.meth c 0 with
      | some _ => (evalEs T Φ es Γ).bnd fun vs => newV T Φ c vs
      | none => M.bad) := rfl
    rw [h]
    show _ = getO (T.meth c 0) _
    cases T.meth c 0 with
    | none => rfl
    | some k => exact (wp_bnd _ _).trans (wpEs_eq T Φ es Γ H _ E)
  | .bf f es, Γ, H, Q, E => (wp_bnd _ _).trans (wpEs_eq T Φ es Γ H _ E)
  | .bm a m es, Γ, H, Q, E => (wp_bnd _ _).trans ((wpE_eq T Φ a Γ H _ E).trans ((wpE_nx fun o H => (wp_bnd _ _).trans ((wp_look _).trans (getO_nx fun _ => (wp_bnd _ _).trans (wpEs_eq T Φ es Γ H _ E)))).trans (wp_bm a m es).symm))
  | .isinst a t, Γ, H, Q, E => (wp_bnd _ _).trans (wpE_eq T Φ a Γ H _ E)
  | .comp _ _ _, _, _, _, _ => rfl
theorem wpO_eq (T : Tab) (Φ : Funs) : ∀ (e : MEo) (Γ : Env') (H : Hp) (Q : Val → Hp → Prop) (E : Nat → Hp → Prop), Wp (evalO T Φ e Γ) H Q E = wpO T Φ e Γ H Q E
  | .none, _, _, _, _ => rfl
  | .some e, Γ, H, Q, E => wpE_eq T Φ e Γ H Q E
theorem wpEs_eq (T : Tab) (Φ : Funs) : ∀ (es : MEs) (Γ : Env') (H : Hp) (Q : List Val → Hp → Prop) (E : Nat → Hp → Prop), Wp (evalEs T Φ es Γ) H Q E = wpEs T Φ es Γ H Q E
  | .nil, _, _, _, _ => rfl
  | .cons e es, Γ, H, Q, E => (wp_bnd _ _).trans ((wpE_eq T Φ e Γ H _ E).trans ((wpE_nx fun v H => (wp_bnd _ _).trans (wpEs_eq T Φ es Γ H _ E)).trans (wp_cons e es).symm))
end
mutual
theorem wpS_eq (T : Tab) (Φ : Funs) : ∀ (s : MS) (Γ : Env') (H : Hp) (Q : Env' → Hp → Prop) (R : Val → Hp → Prop) (E : Nat → Env' → Hp → Prop), WpS (execS T Φ s Γ H) Q R E = wpS T Φ s Γ H Q R E
  | .expr e, Γ, H, Q, R, E => (wps_bnd _ _ _).trans (wpE_eq T Φ e Γ H _ _)
  | .assign i e, Γ, H, Q, R, E => (wps_bnd _ _ _).trans (wpE_eq T Φ e Γ H _ _)
  | .setattr o n e, Γ, H, Q, R, E => (wps_bnd _ _ _).trans ((wpE_eq T Φ e Γ H _ _).trans ((wpE_nx fun v H => (wps_bnd _ _ _).trans ((wpE_eq T Φ o Γ H _ _).trans (wpE_nx fun o H => wps_bnd _ _ _))).trans (wps_setattr o n e).symm))
  | .setitem o i e, Γ, H, Q, R, E => (wps_bnd _ _ _).trans ((wpE_eq T Φ e Γ H _ _).trans ((wpE_nx fun v H => (wps_bnd _ _ _).trans ((wpE_eq T Φ o Γ H _ _).trans (wpE_nx fun o H => (wps_bnd _ _ _).trans ((wpE_eq T Φ i Γ H _ _).trans (wpE_nx fun i H => wps_bnd _ _ _))))).trans (wps_setitem o i e).symm))
  | .ret e, Γ, H, Q, R, E => (wps_bnd _ _ _).trans (wpO_eq T Φ e Γ H _ _)
  | .ite c t f, Γ, H, Q, R, E => (wps_bnd _ _ _).trans ((wp_bnd _ _).trans ((wpE_eq T Φ c Γ H _ _).trans ((wpE_nx fun x H => (wp_truth x).trans (asBool_br _ _ _ _ (wpSs_eq T Φ t Γ H Q R E) (wpSs_eq T Φ f Γ H Q R E))).trans (wps_ite c t f).symm)))
  | .raise c m, Γ, H, Q, R, E => wps_if T c Γ H Q R E
  | .each _ _ _, _, _, _, _, _ => rfl
  | .tryx _ _, _, _, _, _, _ => rfl
theorem wpSs_eq (T : Tab) (Φ : Funs) : ∀ (ss : MSs) (Γ : Env') (H : Hp) (Q : Env' → Hp → Prop) (R : Val → Hp → Prop) (E : Nat → Env' → Hp → Prop), WpS (execSs T Φ ss Γ H) Q R E = wpSs T Φ ss Γ H Q R E
  | .nil, _, _, _, _, _ => rfl
  | .cons s ss, Γ, H, Q, R, E => (wps_then _ _).trans ((wpS_eq T Φ s Γ H _ R E).trans ((wpS_nx fun Γ H => wpSs_eq T Φ ss Γ H Q R E).trans (wps_cons s ss).symm))
end
section
variable {α β : Type} {T : Tab} {Φ : Funs} {Γ : Env'} {H : Hp}
variable {Q : Val → Hp → Prop} {E : Nat → Hp → Prop} {QS : Env' → Hp → Prop} {R : Val → Hp → Prop} {ES : Nat → Env' → Hp → Prop}
theorem wpE_mono {e : ME} {Q' : Val → Hp → Prop} {E' : Nat → Hp → Prop} (h : wpE T Φ e Γ H Q E) (hq : ∀ a H', Q a H' → Q' a H') (he : ∀ c H', E c H' → E' c H') : wpE T Φ e Γ H Q' E' := by
  rw [← wpE_eq] at h ⊢; exact h.mono hq he
theorem wpE_then {e : ME} {Q' : Val → Hp → Prop} (h : wpE T Φ e Γ H Q NoE) (hq : ∀ a H', Q a H' → Q' a H') : wpE T Φ e Γ H Q' E := wpE_mono h hq fun _ _ f => f.elim
theorem wpS_mono {s : MS} {Q' : Env' → Hp → Prop} {R' : Val → Hp → Prop} {E' : Nat → Env' → Hp → Prop} (h : wpS T Φ s Γ H QS R ES) (hq : ∀ Γ H', QS Γ H' → Q' Γ H') (hr : ∀ v H', R v H' → R' v H') (he : ∀ c Γ H', ES c Γ H' → E' c Γ H') : wpS T Φ s Γ H Q' R' E' := by
  rw [← wpS_eq] at h ⊢; exact h.mono hq hr he
theorem wpSs_mono {s : MSs} {Q' : Env' → Hp → Prop} {R' : Val → Hp → Prop} {E' : Nat → Env' → Hp → Prop} (h : wpSs T Φ s Γ H QS R ES) (hq : ∀ Γ H', QS Γ H' → Q' Γ H') (hr : ∀ v H', R v H' → R' v H') (he : ∀ c Γ H', ES c Γ H' → E' c Γ H') : wpSs T Φ s Γ H Q' R' E' := by
  rw [← wpSs_eq] at h ⊢; exact h.mono hq hr he
/-! calls -/
theorem wp_call {d k : Nat} {g : MFun} {args : List Val} (h : T.funs[k]? = some g) (ha : args.length = g.arity) :
    Wp (callF T (d + 1) k args) H Q E = wpSs T (callF T d) g.body (args.map some ++ List.replicate g.nvars none) H (fun _ H' => Q .none H') Q (fun c _ H' => E c H') := by
  rw [← wpSs_eq]
  unfold Wp
  rw [call_at h ha]
  cases execSs T (callF T d) g.body (args.map some ++ List.replicate g.nvars none) H <;> rfl
theorem wps_try {body : MSs} {hs : MHs} (h : wpSs T Φ body Γ H QS R (fun c Γ H => WpS (execH T Φ hs c Γ H) QS R ES)) : wpS T Φ (.tryx body hs) Γ H QS R ES := by
  rw [← wpSs_eq] at h
  show WpS (match execSs T Φ body Γ H with
    | .exc c Γ' H' => execH T Φ hs c Γ' H'
    | r => r) QS R ES
  generalize execSs T Φ body Γ H = r at h
  cases r <;> exact h
/-! loops -/
theorem wps_each {i : Nat} {it : ME} {body : MSs} (h : wpE T Φ it Γ H (fun v H => getO (iterOf v H) fun p => WpS (eachL (chk p.2 p.1) (bind1 i) (execSs T Φ body) p.1 Γ H) QS R ES) (fun c H => ES c Γ H)) : wpS T Φ (.each i it body) Γ H QS R ES := by
  rw [← wpE_eq] at h
  rw [← wpS_eq]
  refine ((wps_bnd _ _ _).trans ?_).mpr h
  simp only [wps_bnd, wp_look]
/- a loop over a list, with an invariant over what is done and what is still to do -/
theorem wps_eachL {chk : Hp → Bool} {bind : Val → Env' → Option Env'} {body : MSs} (I : List Val → Env' → Hp → Prop) :
    ∀ (xs : List Val) (Γ : Env') (H : Hp), I xs Γ H → (∀ Γ H, I [] Γ H → QS Γ H) → (∀ ys Γ H, I ys Γ H → chk H = true) →
    (∀ x ys Γ H, I (x :: ys) Γ H → ∃ Γ', bind x Γ = some Γ' ∧ wpSs T Φ body Γ' H (I ys) R ES) → WpS (eachL chk bind (execSs T Φ body) xs Γ H) QS R ES
  | [], Γ, H, h, hd, hc, _ => by
    rw [eachL, if_pos (hc _ _ _ h)]; exact hd _ _ h
  | x :: xs, Γ, H, h, hd, hc, hs => by
    rw [eachL, if_pos (hc _ _ _ h)]
    obtain ⟨Γ', e, w⟩ := hs _ _ _ _ h
    rw [e]
    rw [← wpSs_eq] at w
    show WpS (thenS _ _) _ _ _
    rw [wps_then]
    exact w.mono (fun Γ H h => wps_eachL I xs Γ H h hd hc hs) (fun _ _ h => h) (fun _ _ _ h => h)
/- by count: what is done is the first k -/
theorem wps_eachN {chk : Hp → Bool} {bind : Val → Env' → Option Env'} {body : MSs} {xs : List Val} (I : Nat → Env' → Hp → Prop)
    (h0 : I 0 Γ H) (hd : ∀ Γ H, I xs.length Γ H → QS Γ H) (hc : ∀ k Γ H, k ≤ xs.length → I k Γ H → chk H = true)
    (hs : ∀ k x Γ H, xs[k]? = some x → I k Γ H → ∃ Γ', bind x Γ = some Γ' ∧ wpSs T Φ body Γ' H (I (k + 1)) R ES) : WpS (eachL chk bind (execSs T Φ body) xs Γ H) QS R ES := by
  refine wps_eachL (fun ys Γ H => ∃ k, ys = xs.drop k ∧ k ≤ xs.length ∧ I k Γ H) xs Γ H ⟨0, rfl, Nat.zero_le _, h0⟩ ?_ ?_ ?_
  · rintro Γ H ⟨k, e, l, h⟩
    have : k = xs.length := by
      have := congrArg List.length e
      simp at this; omega
    subst this; exact hd _ _ h
  · rintro ys Γ H ⟨k, e, l, h⟩
    exact hc k Γ H l h
  · rintro x ys Γ H ⟨k, e, l, h⟩
    have hx : xs[k]? = some x := by
      have := congrArg (fun z => z[0]?) e
      simpa using this.symm
    have lt := (List.getElem?_eq_some_iff.mp hx).1
    obtain ⟨Γ', hb, w⟩ := hs k x Γ H hx h
    refine ⟨Γ', hb, wpSs_mono w ?_ (fun _ _ h => h) (fun _ _ _ h => h)⟩
    intro Γ H h
    refine ⟨k + 1, ?_, lt, h⟩
    have := congrArg List.tail e
    simpa using this
/- a comprehension, with an invariant over what is done and what has come out -/
theorem wp_compL {chk : Hp → Bool} {step : Val → M (Option Val)} {Q : List Val → Hp → Prop} (I : List Val → List Val → Hp → Prop) :
    ∀ (xs : List Val) (out : List Val) (H : Hp), I xs out H → (∀ ys out H, I ys out H → chk H = true) →
    (∀ x ys out H, I (x :: ys) out H → Wp (step x) H (fun r H => I ys (out ++ r.toList) H) E) →
    (∀ zs H, I [] (out ++ zs) H → Q zs H) → Wp (compL chk step xs) H Q E
  | [], out, H, h, hc, _, hd => by
    have : compL chk step [] H = .ok [] H := by
      show (if chk H = true then _ else _) = _
      exact if_pos (hc _ _ _ h)
    exact Wp.of_eq this (hd [] H (by simpa using h))
  | x :: xs, out, H, h, hc, hs, hd => by
    have : compL chk step (x :: xs) H = ((step x).bnd fun r => (compL chk step xs).bnd fun ys => .ret (match r with | some y => y :: ys | none => ys)) H := by
      show (if chk H = true then _ else _) = _
      exact if_pos (hc _ _ _ h)
    unfold Wp; rw [this]
    show Wp _ H Q E
    rw [wp_bnd]
    refine (hs _ _ _ _ h).mono ?_ (fun _ _ h => h)
    intro r H h
    rw [wp_bnd]
    simp only [wp_ret]
    refine wp_compL I xs _ H h hc hs ?_
    intro zs H h
    refine hd _ H ?_
    cases r with
    | none => simpa using h
    | some y => simpa using h
theorem wp_quiet {Q : α → Hp → Prop} {m : M α} (h : Wp m H Q NoE) : Wp (M.quiet m) H Q E := by
  unfold Wp at h ⊢
  unfold M.quiet
  cases hm : m H with
  | ok a H' => rw [hm] at h; exact h
  | exc c H' => rw [hm] at h; exact h.elim
  | bad => rw [hm] at h; exact h.elim
/- a comprehension -/
theorem wp_comp {elt it : ME} {cond : MEo} (h : wpE T Φ it Γ H (fun v H => getO (iterOf v H) fun p =>
    Wp (compL (chk p.2 p.1) (fun x => (evalC T Φ cond (Γ ++ [some x])).bnd fun b => match b with
        | true => (evalE T Φ elt (Γ ++ [some x])).bnd fun y => .ret (some y)
        | false => .ret none) p.1) H (fun ys H => ys.length < lid ∧ Q (.loc H.length) (H ++ [.list ys])) NoE) E) : wpE T Φ (.comp elt it cond) Γ H Q E := by
  rw [← wpE_eq] at h ⊢
  refine (wp_bnd _ _).mpr (h.mono ?_ (fun _ _ h => h))
  intro v H h
  rw [wp_bnd, wp_look]
  cases hp : iterOf v H with
  | none => rw [hp] at h; exact h
  | some p =>
  rw [hp] at h
  show Wp _ _ _ _
  rw [wp_bnd]
  refine wp_quiet (Wp.mono h ?_ (fun _ _ h => h))
  rintro ys H ⟨hl, q⟩
  rw [if_pos hl]; exact q
/- one item of a comprehension -/
theorem wp_step0 {elt : ME} {Q : Option Val → Hp → Prop} (h : wpE T Φ elt Γ H (fun y H => Q (some y) H) E) :
    Wp ((evalC T Φ .none Γ).bnd fun b => match b with
        | true => (evalE T Φ elt Γ).bnd fun y => M.ret (some y)
        | false => .ret none) H Q E := by
  rw [← wpE_eq] at h
  exact (wp_bnd _ _).mpr (show Wp _ H Q E from (wp_bnd _ _).mpr h)
theorem wp_step {elt c : ME} {Q : Option Val → Hp → Prop} (h : wpE T Φ c Γ H (fun v H => asBool v fun b => brB b (wpE T Φ elt Γ H (fun y H => Q (some y) H) E) (Q none H)) E) :
    Wp ((evalC T Φ (.some c) Γ).bnd fun b => match b with
        | true => (evalE T Φ elt Γ).bnd fun y => M.ret (some y)
        | false => .ret none) H Q E := by
  simp only [← wpE_eq] at h
  rw [wp_bnd]
  refine (wp_bnd _ _).mpr (h.mono ?_ (fun _ _ h => h))
  intro v H h
  rw [wp_truth]
  cases v with
  | bool b =>
    cases b with
    | true => exact (wp_bnd _ _).mpr h
    | false => exact h
  | _ => exact h
end
end Mine.Pure

-- part LV
namespace Mine.Pure
open PySem
section
variable {T : Tab} {Φ : Funs} {Γ : Env'} {H : Hp}
variable {Q : Val → Hp → Prop} {E : Nat → Hp → Prop}
/-! ## numbers -/
theorem wv_add (x y : Int) : wpBin .add (.int x) (.int y) H Q E = Q (.int (x + y)) H := rfl
theorem wv_sub (x y : Int) : wpBin .sub (.int x) (.int y) H Q E = Q (.int (x - y)) H := rfl
theorem wv_mul (x y : Int) : wpBin .mul (.int x) (.int y) H Q E = ((small x || small y) = true ∧ Q (.int (x * y)) H) := rfl
theorem wv_fdiv (x y : Int) : wpBin .fdiv (.int x) (.int y) H Q E = (¬ (y = 0 ∨ 1073741824 ≤ y.natAbs) ∧ Q (.int (Int.fdiv x y)) H) := rfl
theorem wv_mod (x y : Int) : wpBin .mod (.int x) (.int y) H Q E = (¬ (y = 0) ∧ Q (.int (Int.fmod x y)) H) := rfl
theorem wv_range (n : Int) : Wp (bfV .range [.int n]) H Q E = ((-1073741824 ≤ n ∧ n ≤ 1073741824) ∧ Q (.rng n) H) := wv_ite _ _
theorem wv_len_script (ns : List Int) : Wp (bfV .len [.script ns]) H Q E = Q (.int ns.length) H := by rw [bf_len_script, wp_ret]
theorem wv_len_tup (xs : List Val) : Wp (bfV .len [.tup xs]) H Q E = Q (.int xs.length) H := rfl
theorem wv_len_loc {l : Nat} {xs : List Val} (h : H[l]? = some (.list xs)) : Wp (bfV .len [.loc l]) H Q E = Q (.int xs.length) H := by
  unfold Wp; rw [bf_len_loc h]
/-! ## comparisons -/
theorem data_int (n : Nat) (i : Int) : dataOf H n (.int i) = some (.int i) := by cases n <;> rfl
theorem data_bool (n : Nat) (i : Bool) : dataOf H n (.bool i) = some (.bool i) := by cases n <;> rfl
theorem data_none (n : Nat) : dataOf H n .none = some .none := by cases n <;> rfl
theorem cv_eq (x y : Int) : cmpV .eq (.int x) (.int y) H = some (decide (x = y)) := by
  show pyEq H (.int x) (.int y) = _
  unfold pyEq; rw [data_int, data_int]; rfl
theorem cv_ne (x y : Int) : cmpV .ne (.int x) (.int y) H = some (!decide (x = y)) := by
  show flip true (pyEq H (.int x) (.int y)) = _
  have : pyEq H (.int x) (.int y) = some (decide (x = y)) := cv_eq (H := H) x y
  rw [this]; simp [flip]
theorem cv_neB (x y : Bool) : cmpV .ne (.bool x) (.bool y) H = some (!decide (x = y)) := by
  show flip true (pyEq H (.bool x) (.bool y)) = _
  unfold pyEq; rw [data_bool, data_bool]; cases x <;> cases y <;> rfl
theorem cv_isB (x y : Bool) : cmpV .is (.bool x) (.bool y) H = some (decide (x = y)) := by
  cases x <;> cases y <;> rfl
theorem go_eq (x y : Int) (k : Bool → Prop) : getO (cmpV .eq (.int x) (.int y) H) k = k (decide (x = y)) := rfl
theorem go_ne (x y : Int) (k : Bool → Prop) : getO (cmpV .ne (.int x) (.int y) H) k = k (!decide (x = y)) := rfl
theorem go_neB (x y : Bool) (k : Bool → Prop) : getO (cmpV .ne (.bool x) (.bool y) H) k = k (!decide (x = y)) := rfl
theorem go_isB (x y : Bool) (k : Bool → Prop) : getO (cmpV .is (.bool x) (.bool y) H) k = k (decide (x = y)) := rfl
theorem go_lt (x y : Int) (k : Bool → Prop) : getO (cmpV .lt (.int x) (.int y) H) k = k (decide (x < y)) := rfl
theorem go_gt (x y : Int) (k : Bool → Prop) : getO (cmpV .gt (.int x) (.int y) H) k = k (decide (y < x)) := rfl
theorem go_le (x y : Int) (k : Bool → Prop) : getO (cmpV .le (.int x) (.int y) H) k = k (decide (x ≤ y)) := rfl
theorem go_isNone_none (k : Bool → Prop) : getO (cmpV .is .none .none H) k = k true := rfl
theorem go_isNone_int (i : Int) (k : Bool → Prop) : getO (cmpV .is (.int i) .none H) k = k false := rfl
/-! ## kinds -/
theorem wi_kd (v : Val) (t : Ty) (k : Kd) (h : kdOf H v = some k) (ht : ∀ c, t ≠ .cls c) : Wp (isinstV T v t) H Q E = Q (.bool (isKd t k)) H := by
  have e : isinstV T v t H = .ok (.bool (isKd t k)) H := by
    unfold isinstV; rw [look_at]
    cases t with
    | cls c => exact absurd rfl (ht c)
    | _ => simp only [h, Option.map_some]
  unfold Wp; rw [e]
theorem wi_int_int (i : Int) : Wp (isinstV T (.int i) .int) H Q E = Q (.bool true) H := rfl
theorem wi_int_bool (i : Int) : Wp (isinstV T (.int i) .bool) H Q E = Q (.bool false) H := rfl
theorem wi_int_tup (i : Int) : Wp (isinstV T (.int i) .tuple) H Q E = Q (.bool false) H := rfl
theorem wi_int_list (i : Int) : Wp (isinstV T (.int i) .list) H Q E = Q (.bool false) H := rfl
theorem wi_bool_int (i : Bool) : Wp (isinstV T (.bool i) .int) H Q E = Q (.bool true) H := rfl
theorem wi_bool_bool (i : Bool) : Wp (isinstV T (.bool i) .bool) H Q E = Q (.bool true) H := rfl
theorem wi_bool_tup (i : Bool) : Wp (isinstV T (.bool i) .tuple) H Q E = Q (.bool false) H := rfl
theorem wi_none_tup : Wp (isinstV T .none .tuple) H Q E = Q (.bool false) H := rfl
theorem wi_none_int : Wp (isinstV T .none .int) H Q E = Q (.bool false) H := rfl
theorem wi_str_tup (s : Str) : Wp (isinstV T (.str s) .tuple) H Q E = Q (.bool false) H := rfl
theorem wi_str_int (s : Str) : Wp (isinstV T (.str s) .int) H Q E = Q (.bool false) H := rfl
theorem wi_tup_tup (xs : List Val) : Wp (isinstV T (.tup xs) .tuple) H Q E = Q (.bool true) H := rfl
theorem wi_tup_int (xs : List Val) : Wp (isinstV T (.tup xs) .int) H Q E = Q (.bool false) H := rfl
theorem wi_list (l : Nat) (xs : List Val) (h : H[l]? = some (.list xs)) : Wp (isinstV T (.loc l) .list) H Q E = Q (.bool true) H :=
  wi_kd _ _ .list (by simp only [kdOf, h]) (by intro c h; cases h)
theorem wi_list_tup (l : Nat) (xs : List Val) (h : H[l]? = some (.list xs)) : Wp (isinstV T (.loc l) .tuple) H Q E = Q (.bool false) H :=
  wi_kd _ _ .list (by simp only [kdOf, h]) (by intro c h; cases h)
/-! ## items -/
theorem ws_tup0 (x : Val) (xs : List Val) : Wp (subV (.tup (x :: xs)) (.int 0)) H Q E = Q x H := rfl
theorem ws_tup1 (x y : Val) (xs : List Val) : Wp (subV (.tup (x :: y :: xs)) (.int 1)) H Q E = Q y H := rfl
theorem ws_tup2 (x y z : Val) (xs : List Val) : Wp (subV (.tup (x :: y :: z :: xs)) (.int 2)) H Q E = Q z H := rfl
theorem place_nat (k n : Nat) (h : k < n) : placeOf (k : Int) n = some k := by
  unfold placeOf
  rw [if_pos (by omega), if_pos (by omega)]; rfl
theorem place_int (k : Int) (n : Nat) (h0 : 0 ≤ k) (h : k < n) : placeOf k n = some k.toNat := by
  unfold placeOf
  rw [if_pos h0, if_pos h]
theorem ws_list {l : Nat} {xs : List Val} (h : H[l]? = some (.list xs)) {k : Int} {v : Val} (h0 : 0 ≤ k) (hk : xs[k.toNat]? = some v) (q : Q v H) : Wp (subV (.loc l) (.int k)) H Q E := by
  have lt := (List.getElem?_eq_some_iff.mp hk).1
  refine Wp.of_eq ?_ q
  unfold subV; rw [look_at]
  simp only [h, place_int k xs.length h0 (by omega), Option.bind_some, hk]
/-! ## lists -/
theorem fits_append {l : Nat} {xs : List Val} (h : H[l]? = some (.list xs)) : bmFits .append (.loc l) H = some () := by
  unfold bmFits; simp only [h]
theorem wm_append {l : Nat} {xs : List Val} {v : Val} (h : H[l]? = some (.list xs)) (hl : xs.length < lid) (q : Q .none (H.set l (.list (xs ++ [v])))) : Wp (bmV .append (.loc l) [v]) H Q E := by
  refine Wp.of_eq ?_ q
  unfold bmV; simp only [h]
  exact if_pos hl
/- `x.append(e)` as a statement's expression -/
theorem wp_appendE {i : Nat} {e : ME} {l : Nat} {xs : List Val} (hi : Γ[i]? = some (some (.loc l))) (h : H[l]? = some (.list xs))
    (q : wpE T Φ e Γ H (fun v H' => ∃ ys, H'[l]? = some (.list ys) ∧ ys.length < lid ∧ Q .none (H'.set l (.list (ys ++ [v])))) E) : wpE T Φ (.bm (.var i) .append (.cons e .nil)) Γ H Q E := by
  rw [wp_bm, wp_var]
  rw [getV_get, hi]
  show getO (bmFits _ _ _) _
  rw [fits_append h]
  show wpEs _ _ _ _ _ _ _
  rw [wp_cons]
  refine wpE_mono q ?_ (fun _ _ h => h)
  rintro v H' ⟨ys, hy, hl, q⟩
  rw [wp_nil]
  exact wm_append hy hl q
end
end Mine.Pure

-- part LX
namespace Mine.Pure
open PySem
/-! ## a heap that has grown -/
noncomputable def Ext (H H' : Hp) : Prop := ∃ K, H' = H ++ K
theorem Ext.refl (H : Hp) : Ext H H := ⟨[], by simp⟩
theorem Ext.trans {H H1 H2 : Hp} : Ext H H1 → Ext H1 H2 → Ext H H2
  | ⟨K, e⟩, ⟨L, f⟩ => ⟨K ++ L, by rw [f, e, List.append_assoc]⟩
theorem Ext.new {H H' : Hp} (h : Ext H H') (o : HObj) : Ext H (H' ++ [o]) := h.trans ⟨[o], rfl⟩
theorem Ext.get {H H' : Hp} (h : Ext H H') {l : Nat} {o : HObj} (g : H[l]? = some o) : H'[l]? = some o := by
  obtain ⟨K, rfl⟩ := h
  rw [List.getElem?_append_left (List.getElem?_eq_some_iff.mp g).1]; exact g
theorem Ext.len {H H' : Hp} (h : Ext H H') : H.length ≤ H'.length := by
  obtain ⟨K, rfl⟩ := h; simp
theorem Ext.set {H H' : Hp} (h : Ext H H') {l : Nat} (hl : H.length ≤ l) (o : HObj) : Ext H (H'.set l o) := by
  obtain ⟨K, rfl⟩ := h
  exact ⟨K.set (l - H.length) o, by rw [List.set_append_right _ _ hl]⟩
theorem get_new (H : Hp) (o : HObj) : (H ++ [o])[H.length]? = some o := by simp
theorem lt_of_get {H : Hp} {l : Nat} {o : HObj} (g : H[l]? = some o) : l < H.length := (List.getElem?_eq_some_iff.mp g).1
theorem get_set {H : Hp} {l : Nat} {o : HObj} (o' : HObj) (g : H[l]? = some o) : (H.set l o')[l]? = some o' := by
  rw [List.getElem?_set_self (lt_of_get g)]
theorem get_other {H : Hp} {l m : Nat} {o : HObj} (o' : HObj) (hne : l ≠ m) (g : H[m]? = some o) : (H.set l o')[m]? = some o := by
  rw [List.getElem?_set_ne hne]; exact g
theorem chk_list {H : Hp} {l : Nat} {xs : List Val} (h : H[l]? = some (.list xs)) : chk (some l) xs H = true := by
  simp only [chk, h]; exact sames_refl xs
theorem iter_list {H : Hp} {l : Nat} {xs : List Val} (h : H[l]? = some (.list xs)) : iterOf (.loc l) H = some (xs, some l) := by
  simp only [iterOf, h]
theorem listOf_list {H : Hp} {l : Nat} {xs : List Val} (h : H[l]? = some (.list xs)) : listOf (.loc l) H = some (xs, l) := by
  simp only [listOf, h]
noncomputable def rngL (n : Int) : List Val := (List.range n.toNat).map (fun (k : Nat) => .int (k : Int))
theorem iter_rng {H : Hp} (n : Int) : iterOf (.rng n) H = some (rngL n, none) := rfl
theorem rngL_get {n : Int} {k : Nat} {x : Val} (h : (rngL n)[k]? = some x) : x = .int k ∧ (k : Int) < n := by
  unfold rngL at h
  rw [List.getElem?_map] at h
  cases e : (List.range n.toNat)[k]? with
  | none => rw [e] at h; cases h
  | some j =>
    rw [e] at h
    obtain ⟨lt, g⟩ := List.getElem?_eq_some_iff.mp e
    simp at g lt h
    subst g
    exact ⟨h.symm, by omega⟩
theorem rngL_len (n : Int) : (rngL n).length = n.toNat := by simp [rngL]
section
variable {T : Tab} {Φ : Funs} {Γ : Env'} {H : Hp} {QS : Env' → Hp → Prop} {R : Val → Hp → Prop} {ES : Nat → Env' → Hp → Prop}
theorem wps_seq {s : MS} {ss : MSs} (P : Env' → Hp → Prop) (h : wpS T Φ s Γ H P R ES) (q : ∀ Γ H, P Γ H → wpSs T Φ ss Γ H QS R ES) : wpSs T Φ (.cons s ss) Γ H QS R ES := by
  rw [wps_cons]; exact wpS_mono h q (fun _ _ h => h) (fun _ _ _ h => h)
theorem wps_asg {i : Nat} {e : ME} {ss : MSs} (P : Val → Hp → Prop) (h : wpE T Φ e Γ H P NoE) (q : ∀ v H, P v H → wpSs T Φ ss (Γ.set i (some v)) H QS R ES) : wpSs T Φ (.cons (.assign i e) ss) Γ H QS R ES := by
  rw [wps_cons, wps_assign]; exact wpE_then h q
theorem wps_ex {e : ME} {ss : MSs} (P : Hp → Prop) (h : wpE T Φ e Γ H (fun _ H => P H) NoE) (q : ∀ H, P H → wpSs T Φ ss Γ H QS R ES) : wpSs T Φ (.cons (.expr e) ss) Γ H QS R ES := by
  rw [wps_cons, wps_expr]; exact wpE_then h (fun _ => q)
/- an `if` whose condition fails -/
theorem wps_no {c : ME} {t ss : MSs} (P : Hp → Prop) (h : wpE T Φ c Γ H (fun v H => v = .bool false ∧ P H) NoE) (q : ∀ H, P H → wpSs T Φ ss Γ H QS R ES) : wpSs T Φ (.cons (.ite c t .nil) ss) Γ H QS R ES := by
  rw [wps_cons, wps_ite]
  refine wpE_then h ?_
  rintro v H ⟨rfl, p⟩
  exact q H p
/- an `if` whose condition holds, and that ends the run -/
theorem wps_yes {c : ME} {t f ss : MSs} (P : Hp → Prop) (h : wpE T Φ c Γ H (fun v H => v = .bool true ∧ P H) NoE) (q : ∀ H, P H → wpSs T Φ t Γ H (fun Γ H => wpSs T Φ ss Γ H QS R ES) R ES) : wpSs T Φ (.cons (.ite c t f) ss) Γ H QS R ES := by
  rw [wps_cons, wps_ite]
  refine wpE_then h ?_
  rintro v H ⟨rfl, p⟩
  exact q H p
/- `for i in range(e)` -/
theorem wps_eachR {i : Nat} {e : ME} {body : MSs} {n : Int} (I : Nat → Env' → Hp → Prop)
    (he : wpE T Φ e Γ H (fun v H' => v = .int n ∧ H' = H) NoE) (hn : -1073741824 ≤ n ∧ n ≤ 1073741824) (h0 : I 0 Γ H)
    (hs : ∀ (k : Nat) Γ H, (k : Int) < n → I k Γ H → wpSs T Φ body (Γ.set i (some (.int k))) H (I (k + 1)) R ES)
    (hd : ∀ Γ H, I n.toNat Γ H → QS Γ H) : wpS T Φ (.each i (.bf .range (.cons e .nil)) body) Γ H QS R ES := by
  apply wps_each
  rw [wp_bf, wp_cons]
  refine wpE_then he ?_
  rintro v H' ⟨rfl, rfl⟩
  rw [wp_nil, wv_range]
  refine ⟨hn, ?_⟩
  show WpS (eachL (chk none (rngL n)) _ _ (rngL n) _ _) _ _ _
  refine wps_eachN I h0 ?_ (fun _ _ _ _ _ => rfl) ?_
  · rw [rngL_len]; exact hd
  · intro k x Γ H hx hi
    obtain ⟨rfl, lt⟩ := rngL_get hx
    exact ⟨_, rfl, hs k Γ H lt hi⟩
end
end Mine.Pure

-- part LE
namespace Mine.Pure
open PySem
section
variable {T : Tab} {Φ : Funs} {Γ : Env'} {H : Hp} {QS : Env' → Hp → Prop} {R : Val → Hp → Prop} {ES : Nat → Env' → Hp → Prop}
/-! ## handlers -/
theorem wps_hit {c d i : Nat} {body : MSs} {hs : MHs} (h0 : (T.isExc c && T.isExc d && calmSs (calmFn T) body) = true) (h1 : T.sub c d = true) (h : wpSs T Φ body (Γ.set i (some (.exc c))) H (fun _ _ => False) R NoX) : WpS (execH T Φ (.cons d (some i) body hs) c Γ H) QS R ES := by
  rw [← wpSs_eq] at h
  show WpS (if (T.isExc c && T.isExc d && calmSs (calmFn T) body) = false then .bad else if T.sub c d = true then _ else _) QS R ES
  rw [h0, if_neg (by decide), if_pos h1]
  show WpS (match execSs T Φ body (Γ.set i (some (.exc c))) H with
      | .ret v H' => .ret v H'
      | _ => .bad) QS R ES
  generalize execSs T Φ body (Γ.set i (some (.exc c))) H = r at h
  cases r <;> exact h
theorem wps_miss {c d : Nat} {i : Option Nat} {body : MSs} {hs : MHs} (h0 : (T.isExc c && T.isExc d && calmSs (calmFn T) body) = true) (h1 : T.sub c d = false) (h : WpS (execH T Φ hs c Γ H) QS R ES) : WpS (execH T Φ (.cons d i body hs) c Γ H) QS R ES := by
  show WpS (if (T.isExc c && T.isExc d && calmSs (calmFn T) body) = false then .bad else if T.sub c d = true then _ else _) QS R ES
  rw [h0, if_neg (by decide), h1, if_neg (by decide)]
  exact h
end
end Mine.Pure

-- part LG
namespace Mine.Pure
open PySem
/- a grid: the list of its rows at l, row i at b + s * i -/
structure GAt (H : Hp) (l b s : Nat) (g : List (List Val)) : Prop where
  top : H[l]? = some (.list ((List.range g.length).map fun i => .loc (b + s * i)))
  row : ∀ i r, g[i]? = some r → H[b + s * i]? = some (.list r)
theorem GAt.ext {H H' : Hp} {l b s : Nat} {g : List (List Val)} (x : GAt H l b s g) (e : Ext H H') : GAt H' l b s g := ⟨e.get x.top, fun i r h => e.get (x.row i r h)⟩
theorem GAt.other {H : Hp} {l b s m : Nat} {g : List (List Val)} (x : GAt H l b s g) (o : HObj) (h1 : m ≠ l) (h2 : ∀ i, i < g.length → m ≠ b + s * i) : GAt (H.set m o) l b s g :=
  ⟨get_other o h1 x.top, fun i r h => get_other o (h2 i (List.getElem?_eq_some_iff.mp h).1) (x.row i r h)⟩
theorem GAt.item {H : Hp} {l b s : Nat} {g : List (List Val)} (x : GAt H l b s g) {i : Nat} (h : i < g.length) : ((List.range g.length).map fun i => Val.loc (b + s * i))[i]? = some (.loc (b + s * i)) := by
  rw [List.getElem?_map, List.getElem?_range h]; rfl
section
variable {T : Tab} {Φ : Funs} {Γ : Env'} {H : Hp} {Q : Val → Hp → Prop} {E : Nat → Hp → Prop}
theorem wp_compN {chk : Hp → Bool} {step : Val → M (Option Val)} {Q : List Val → Hp → Prop} {xs : List Val} (I : Nat → List Val → Hp → Prop) (h0 : I 0 [] H) (hc : ∀ k out H, I k out H → chk H = true)
    (hs : ∀ k x out H, xs[k]? = some x → I k out H → Wp (step x) H (fun r H => I (k + 1) (out ++ r.toList) H) E) (hd : ∀ zs H, I xs.length zs H → Q zs H) : Wp (compL chk step xs) H Q E := by
  refine wp_compL (fun ys out H => ∃ k, ys = xs.drop k ∧ k ≤ xs.length ∧ I k out H) xs [] H ⟨0, rfl, Nat.zero_le _, h0⟩ ?_ ?_ ?_
  · rintro ys out H ⟨k, _, _, h⟩; exact hc k out H h
  · rintro x ys out H ⟨k, e, l, h⟩
    have hx : xs[k]? = some x := by
      have := congrArg (fun z => z[0]?) e
      simpa using this.symm
    refine (hs k x out H hx h).mono ?_ (fun _ _ h => h)
    intro r H h
    refine ⟨k + 1, ?_, (List.getElem?_eq_some_iff.mp hx).1, h⟩
    have := congrArg List.tail e
    simpa using this
  · rintro zs H ⟨k, e, l, h⟩
    have : k = xs.length := by
      have := congrArg List.length e
      simp at this; omega
    subst this; exact hd _ _ h
/- a comprehension whose items leave the heap alone -/
theorem comp_pure {elt it : ME} {xs : List Val} {src : Option Nat} (P : Nat → Val → Prop) (hit : wpE T Φ it Γ H (fun v H' => H' = H ∧ iterOf v H = some (xs, src)) NoE) (hck : chk src xs H = true) (hz : xs.length < lid)
    (he : ∀ k x, xs[k]? = some x → wpE T Φ elt (Γ ++ [some x]) H (fun v H' => P k v ∧ H' = H) NoE) (q : ∀ ys, ys.length = xs.length → (∀ k v, ys[k]? = some v → P k v) → Q (.loc H.length) (H ++ [.list ys])) : wpE T Φ (.comp elt it .none) Γ H Q E := by
  refine wp_comp (wpE_then hit ?_)
  rintro v H' ⟨e, hi⟩
  rw [e, hi, getO_some]
  clear e
  refine wp_compN (fun k out H' => H' = H ∧ out.length = k ∧ ∀ j v, out[j]? = some v → P j v) ⟨rfl, rfl, fun j v h => by cases h⟩ ?_ ?_ ?_
  · rintro k out _ ⟨rfl, _⟩; exact hck
  · rintro k x out _ hx ⟨rfl, hl, hp⟩
    refine wp_step0 (wpE_then (he k x hx) ?_)
    rintro v _ ⟨hv, rfl⟩
    refine ⟨rfl, by rw [List.length_append, hl]; rfl, fun j w hj => ?_⟩
    by_cases c : j < out.length
    · rw [List.getElem?_append_left c] at hj; exact hp j w hj
    · rw [List.getElem?_append_right (by omega)] at hj
      have : j - out.length = 0 := by
        have := (List.getElem?_eq_some_iff.mp hj).1
        simp at this; omega
      rw [this] at hj
      cases hj
      have : j = k := by omega
      rw [this]; exact hv
  · rintro zs _ ⟨rfl, hl, hp⟩
    have hl : zs.length = xs.length := hl
    exact ⟨by omega, q zs hl hp⟩
/- a comprehension whose items make a row each, s new objects an item, the row the last -/
theorem comp_rows {elt it : ME} {xs : List Val} {src : Option Nat} (s : Nat) (P : Nat → List Val → Prop) (hit : wpE T Φ it Γ H (fun v H' => H' = H ∧ iterOf v H = some (xs, src)) NoE) (hck : ∀ K, Ext H K → chk src xs K = true) (hz : xs.length < lid)
    (he : ∀ k x K, xs[k]? = some x → Ext H K → wpE T Φ elt (Γ ++ [some x]) K (fun v K' => ∃ r, P k r ∧ v = .loc (K.length + s) ∧ Ext K K' ∧ K'.length = K.length + s + 1 ∧ K'[K.length + s]? = some (.list r)) NoE)
    (q : ∀ g K, g.length = xs.length → (∀ k r, g[k]? = some r → P k r) → Ext H K → GAt K (H.length + (s + 1) * g.length) (H.length + s) (s + 1) g → K.length = H.length + (s + 1) * g.length + 1 → Q (.loc (H.length + (s + 1) * g.length)) K) : wpE T Φ (.comp elt it .none) Γ H Q E := by
  refine wp_comp (wpE_then hit ?_)
  rintro v H' ⟨e, hi⟩
  rw [e, hi, getO_some]
  clear e
  refine wp_compN (fun k out K => Ext H K ∧ K.length = H.length + (s + 1) * k ∧ out = (List.range k).map (fun i => Val.loc (H.length + s + (s + 1) * i)) ∧ ∃ g : List (List Val), g.length = k ∧ (∀ j r, g[j]? = some r → P j r ∧ K[H.length + s + (s + 1) * j]? = some (.list r)))
    ⟨Ext.refl H, rfl, rfl, [], rfl, fun j r h => by cases h⟩ ?_ ?_ ?_
  · rintro k out K ⟨e, _⟩; exact hck K e
  · rintro k x out K hx ⟨e, hl, rfl, g, hg, hp⟩
    refine wp_step0 (wpE_then (he k x K hx e) ?_)
    rintro v K' ⟨r, pr, rfl, e', hl', hr⟩
    have pos : K.length + s = H.length + s + (s + 1) * k := by omega
    refine ⟨e.trans e', by rw [hl', hl, Nat.mul_succ]; omega, ?_, g ++ [r], by rw [List.length_append, hg]; rfl, fun j w hj => ?_⟩
    · rw [List.range_succ, List.map_append, pos]; rfl
    · by_cases c : j < g.length
      · rw [List.getElem?_append_left c] at hj
        exact ⟨(hp j w hj).1, e'.get (hp j w hj).2⟩
      · rw [List.getElem?_append_right (by omega)] at hj
        have : j - g.length = 0 := by
          have := (List.getElem?_eq_some_iff.mp hj).1
          simp at this; omega
        rw [this] at hj
        cases hj
        have : j = k := by omega
        rw [this, ← pos]; exact ⟨pr, hr⟩
  · rintro zs K ⟨e, hl, rfl, g, hg, hp⟩
    have gl : g.length = xs.length := hg
    refine ⟨by rw [List.length_map, List.length_range]; exact hz, ?_⟩
    rw [hl, ← gl]
    refine q g _ gl (fun k r h => (hp k r h).1) (e.new _) ⟨?_, fun i r h => Ext.get ⟨_, rfl⟩ (hp i r h).2⟩ (by rw [List.length_append, hl, ← gl]; rfl)
    have := get_new K (.list ((List.range g.length).map fun i => Val.loc (H.length + s + (s + 1) * i)))
    rw [hl, ← gl] at this
    exact this
theorem it_rng {it : ME} {n : Nat} (hn : n ≤ 1000) (h : wpE T Φ it Γ H (fun v H' => v = .int (n : Int) ∧ H' = H) NoE) : wpE T Φ (.bf .range (.cons it .nil)) Γ H (fun v H' => H' = H ∧ iterOf v H = some (rngL n, none)) NoE := by
  rw [wp_bf, wp_cons]
  refine wpE_then h ?_
  rintro v _ ⟨rfl, rfl⟩
  rw [wp_nil, wv_range]
  exact ⟨⟨by omega, by omega⟩, rfl, rfl⟩
theorem rngN_get {n k : Nat} {x : Val} (h : (rngL n)[k]? = some x) : x = .int (k : Int) ∧ k < n := by
  obtain ⟨a, b⟩ := rngL_get h
  exact ⟨a, by omega⟩
theorem rngN_len (n : Nat) : (rngL n).length = n := by rw [rngL_len]; omega
theorem chk_none (xs : List Val) (K : Hp) : chk none xs K = true := rfl
/- `[list(row) for row in it]` -/
theorem wp_copy {it : ME} {k l b s : Nat} {g : List (List Val)} (hk : Γ.length = k) (G : GAt H l b s g) (hz : g.length < lid) (hit : wpE T Φ it Γ H (fun v H' => v = .loc l ∧ H' = H) NoE)
    (q : ∀ K, Ext H K → GAt K (H.length + g.length) H.length 1 g → K.length = H.length + g.length + 1 → Q (.loc (H.length + g.length)) K) : wpE T Φ (.comp (.bf .list (.cons (.var k) .nil)) it .none) Γ H Q E := by
  refine comp_rows (xs := (List.range g.length).map fun i => Val.loc (b + s * i)) (src := some l) 0 (fun j r => g[j]? = some r) (wpE_then hit ?_) (fun K e => chk_list (e.get G.top)) (by rw [List.length_map, List.length_range]; exact hz) ?_ ?_
  · rintro v _ ⟨rfl, rfl⟩; exact ⟨rfl, iter_list G.top⟩
  · intro j x K hx e
    rw [List.getElem?_map] at hx
    cases hj : (List.range g.length)[j]? with
    | none => rw [hj] at hx; cases hx
    | some i =>
      rw [hj] at hx
      obtain ⟨lt, ej⟩ := List.getElem?_eq_some_iff.mp hj
      rw [List.getElem_range] at ej
      subst ej
      cases hx
      have lt' : j < g.length := by rw [List.length_range] at lt; exact lt
      have hg : g[j]? = some g[j] := List.getElem?_eq_getElem lt'
      have hr := e.get (G.row j _ hg)
      rw [wp_bf, wp_cons, wp_var, getV_get, List.getElem?_append_right (by omega), hk, Nat.sub_self]
      show Wp (bfV .list [.loc (b + s * j)]) K _ _
      have : bfV .list [.loc (b + s * j)] K = .ok (.loc K.length) (K ++ [.list g[j]]) := by
        show (match itemsOf (.loc (b + s * j)) K with | some xs => M.alloc (.list xs) K | none => .bad) = _
        rw [show itemsOf (.loc (b + s * j)) K = some g[j] by simp only [itemsOf, hr]]; rfl
      exact Wp.of_eq this ⟨_, hg, rfl, ⟨_, rfl⟩, by rw [List.length_append]; rfl, get_new K _⟩
  · intro g' K hl hp e G' hK
    have : g' = g := by
      rw [List.length_map, List.length_range] at hl
      refine List.ext_getElem? fun i => ?_
      cases h : g'[i]? with
      | some r => rw [hp i r h]
      | none =>
        rw [List.getElem?_eq_none_iff] at h
        rw [List.getElem?_eq_none (by omega)]
    subst this
    rw [Nat.zero_add, Nat.one_mul] at G' hK ⊢
    exact q K e G' hK
end
end Mine.Pure

-- part GT04
namespace Mine
open PySem
/- whole -/
noncomputable def f0_04 : MFun := ⟨3, 0, (.cons (.ite (.or (.not (.isinst (.var 0) .int)) (.isinst (.var 0) .bool)) (.cons (.ret (.some (.bool false))) .nil) .nil) (.cons (.ret (.some (.cmp2 .le .le (.var 1) (.var 0) (.var 2)))) .nil))⟩
/- is_height -/
noncomputable def f1_04 : MFun := ⟨1, 0, (.cons (.ret (.some (.or (.cmp .is (.var 0) .none) (.call 0 (.cons (.var 0) (.cons (.int 0) (.cons (.glob 1) .nil))))))) .nil)⟩
/- look_at_rows -/
noncomputable def f2_04 : MFun := ⟨1, 1, (.cons (.ite (.or (.not (.isinst (.var 0) .list)) (.not (.call 0 (.cons (.bf .len (.cons (.var 0) .nil)) (.cons (.int 1) (.cons (.glob 0) .nil)))))) (.cons (.raise 1 "a list of rows is wanted") .nil) .nil) (.cons (.each 1 (.var 0) (.cons (.ite (.or (.not (.isinst (.var 1) .list)) (.not (.call 0 (.cons (.bf .len (.cons (.var 1) .nil)) (.cons (.int 1) (.cons (.glob 0) .nil)))))) (.cons (.raise 1 "a row is a list of heights") .nil) .nil) .nil)) (.cons (.each 1 (.var 0) (.cons (.ite (.cmp .ne (.bf .len (.cons (.var 1) .nil)) (.bf .len (.cons (.sub (.var 0) (.int 0)) .nil))) (.cons (.raise 1 "all rows are as long") .nil) .nil) .nil)) .nil)))⟩
/- flat -/
noncomputable def f3_04 : MFun := ⟨3, 0, (.cons (.ite (.or (.not (.call 0 (.cons (.var 0) (.cons (.int 1) (.cons (.glob 0) .nil))))) (.not (.call 0 (.cons (.var 1) (.cons (.int 1) (.cons (.glob 0) .nil)))))) (.cons (.raise 1 "1 to 30 rows and columns are wanted") .nil) .nil) (.cons (.ite (.not (.call 1 (.cons (.var 2) .nil))) (.cons (.raise 2 "a height or None is wanted") .nil) .nil) (.cons (.ret (.some (.new 7 (.cons (.comp (.bin .mul (.list (.cons (.var 2) .nil)) (.var 1)) (.bf .range (.cons (.var 0) .nil)) .none) .nil)))) .nil)))⟩
/- _law_cell_at -/
noncomputable def f4_04 : MFun := ⟨2, 0, (.cons (.ite (.cmp .lt (.var 1) (.bf .len (.cons (.var 0) .nil))) (.cons (.ret (.some (.sub (.var 0) (.var 1)))) .nil) .nil) (.cons (.ret (.some (.int 0))) .nil))⟩
/- _law_word_of -/
noncomputable def f5_04 : MFun := ⟨1, 1, (.cons (.assign 1 (.str "")) (.cons (.ite (.isinst (.var 0) (.cls 1)) (.cons (.assign 1 (.bin .add (.var 1) (.str "land "))) .nil) .nil) (.cons (.ite (.isinst (.var 0) (.cls 2)) (.cons (.assign 1 (.bin .add (.var 1) (.str "height "))) .nil) .nil) (.cons (.ite (.isinst (.var 0) (.cls 3)) (.cons (.assign 1 (.bin .add (.var 1) (.str "cell "))) .nil) .nil) (.cons (.ite (.isinst (.var 0) (.cls 4)) (.cons (.assign 1 (.bin .add (.var 1) (.str "drain "))) .nil) .nil) (.cons (.ite (.isinst (.var 0) (.cls 5)) (.cons (.assign 1 (.bin .add (.var 1) (.str "way "))) .nil) .nil) (.cons (.ite (.isinst (.var 0) (.cls 6)) (.cons (.assign 1 (.bin .add (.var 1) (.str "rain "))) .nil) .nil) (.cons (.ite (.isinst (.var 0) (.cls 8)) (.cons (.ret (.some (.bm (.var 1) .rstrip .nil))) .nil) .nil) (.cons (.ret (.some (.str "another base"))) .nil)))))))))⟩
/- _law_word -/
noncomputable def f6_04 : MFun := ⟨1, 1, (.cons (.tryx (.cons (.expr (.new 7 (.cons (.var 0) .nil))) .nil) (.cons 0 (some 1) (.cons (.ret (.some (.call 5 (.cons (.var 1) .nil)))) .nil) .nil)) (.cons (.ret (.some (.str ""))) .nil))⟩
/- _law_flat_word -/
noncomputable def f7_04 : MFun := ⟨3, 1, (.cons (.tryx (.cons (.expr (.call 3 (.cons (.var 0) (.cons (.var 1) (.cons (.var 2) .nil))))) .nil) (.cons 2 (some 3) (.cons (.ret (.some (.call 5 (.cons (.var 3) .nil)))) .nil) (.cons 1 (some 3) (.cons (.ret (.some (.call 5 (.cons (.var 3) .nil)))) .nil) .nil))) (.cons (.ret (.some (.str ""))) .nil))⟩
/- _law_is_refused -/
noncomputable def f8_04 : MFun := ⟨1, 1, (.cons (.tryx (.cons (.expr (.new 7 (.cons (.var 0) .nil))) .nil) (.cons 0 (some 1) (.cons (.ret (.some (.isinst (.var 1) (.cls 8)))) .nil) .nil)) (.cons (.ret (.some (.bool false))) .nil))⟩
/- _law_rows_wrong -/
noncomputable def f9_04 : MFun := ⟨3, 0, (.cons (.ite (.cmp .eq (.var 2) (.int 0)) (.cons (.ret (.some (.list .nil))) .nil) .nil) (.cons (.ite (.cmp .eq (.var 2) (.int 1)) (.cons (.ret (.some (.bin .add (.var 0) (.comp (.bf .list (.cons (.sub (.var 0) (.int 0)) .nil)) (.bf .range (.cons (.bin .sub (.int 31) (.bf .len (.cons (.var 0) .nil))) .nil)) .none)))) .nil) .nil) (.cons (.ite (.cmp .eq (.var 2) (.int 2)) (.cons (.ret (.some (.comp (.bin .add (.bf .list (.cons (.var 3) .nil)) (.bin .mul (.list (.cons (.int 0) .nil)) (.bin .sub (.int 31) (.bf .len (.cons (.var 3) .nil))))) (.var 0) .none))) .nil) .nil) (.cons (.ite (.cmp .eq (.var 2) (.int 3)) (.cons (.ret (.some (.comp (.list .nil) (.var 0) .none))) .nil) .nil) (.cons (.ite (.cmp .eq (.var 2) (.int 4)) (.cons (.expr (.bm (.sub (.var 0) (.var 1)) .append (.cons (.int 0) .nil))) (.cons (.ret (.some (.bin .add (.bin .add (.var 0) (.list (.cons (.bf .list (.cons (.sub (.var 0) (.int 0)) .nil)) .nil))) (.list (.cons (.slice (.sub (.var 0) (.int 0)) (.some (.int 1)) .none) .nil))))) .nil)) .nil) (.cons (.ite (.cmp .eq (.var 2) (.int 5)) (.cons (.ret (.some (.bin .add (.bin .add (.slice (.var 0) .none (.some (.var 1))) (.list (.cons (.bf .tuple (.cons (.sub (.var 0) (.var 1)) .nil)) .nil))) (.slice (.var 0) (.some (.bin .add (.var 1) (.int 1))) .none)))) .nil) .nil) (.cons (.ite (.cmp .eq (.var 2) (.int 6)) (.cons (.ret (.some (.bf .tuple (.cons (.var 0) .nil)))) .nil) .nil) (.cons (.ret (.some (.sub (.list (.cons .none (.cons (.str "ab") (.cons (.int 7) .nil)))) (.bin .mod (.var 1) (.int 3))))) .nil))))))))⟩
/- law -/
noncomputable def f10_04 : MFun := ⟨1, 8, (.cons (.assign 1 (.call 4 (.cons (.var 0) (.cons (.int 0) .nil)))) (.cons (.assign 2 (.bin .add (.int 1) (.bin .mod (.var 1) (.int 4)))) (.cons (.assign 3 (.comp (.comp (.bin .mod (.bin .add (.call 4 (.cons (.var 0) (.cons (.int 3) .nil))) (.bin .mul (.int 5) (.var 10))) (.int 1000000001)) (.bf .range (.cons (.var 2) .nil)) .none) (.bf .range (.cons (.bin .add (.int 1) (.bin .mod (.bin .fdiv (.var 1) (.int 4)) (.int 4))) .nil)) .none)) (.cons (.assign 4 (.bin .mod (.call 4 (.cons (.var 0) (.cons (.int 1) .nil))) (.bf .len (.cons (.var 3) .nil)))) (.cons (.assign 5 (.bin .mod (.call 4 (.cons (.var 0) (.cons (.int 2) .nil))) (.int 16))) (.cons (.assign 6 (.sub (.list (.cons (.neg (.int 1)) (.cons (.int 1000000001) (.cons (.bool true) (.cons (.str "1") (.cons (.bin .sub (.neg (.int 1)) (.bf .abs (.cons (.var 1) .nil))) (.cons (.bin .add (.int 1000000001) (.bf .abs (.cons (.var 1) .nil))) .nil))))))) (.bin .mod (.call 4 (.cons (.var 0) (.cons (.int 4) .nil))) (.int 6)))) (.cons (.assign 7 (.str "")) (.cons (.ite (.or (.cmp .gt (.var 5) (.int 10)) (.and (.cmp .lt (.var 5) (.int 4)) (.cmp .eq (.bin .mod (.var 1) (.int 3)) (.int 0)))) (.cons (.setitem (.sub (.var 3) (.var 4)) (.bin .mod (.call 4 (.cons (.var 0) (.cons (.int 5) .nil))) (.var 2)) (.var 6)) (.cons (.assign 7 (.str "height")) .nil)) .nil) (.cons (.ite (.cmp .lt (.var 5) (.int 8)) (.cons (.assign 3 (.call 9 (.cons (.var 3) (.cons (.var 4) (.cons (.var 5) .nil))))) (.cons (.assign 7 (.str "land")) .nil)) .nil) (.cons (.ite (.cmp .eq (.var 5) (.int 8)) (.cons (.assign 3 (.comp (.bf .list (.cons (.sub (.var 3) (.int 0)) .nil)) (.bf .range (.cons (.int 30) .nil)) .none)) .nil) .nil) (.cons (.ite (.cmp .eq (.var 5) (.int 9)) (.cons (.assign 3 (.comp (.bin .add (.bin .mul (.list (.cons (.int 0) .nil)) (.int 29)) (.list (.cons .none .nil))) (.var 3) .none)) .nil) .nil) (.cons (.ite (.or (.cmp .ne (.call 6 (.cons (.var 3) .nil)) (.var 7)) (.and (.cmp .ne (.var 7) (.str "")) (.not (.call 8 (.cons (.var 3) .nil))))) (.cons (.ret (.some (.bool false))) .nil) .nil) (.cons (.ite (.or (.cmp .ne (.call 7 (.cons (.var 2) (.cons (.var 2) (.cons (.var 6) .nil)))) (.str "height")) (.cmp .ne (.call 7 (.cons (.int 30) (.cons (.var 2) (.cons .none .nil)))) (.str ""))) (.cons (.ret (.some (.bool false))) .nil) .nil) (.cons (.assign 8 (.sub (.list (.cons (.int 0) (.cons (.int 31) (.cons (.neg (.int 1)) (.cons (.bool true) (.cons (.str "3") (.cons .none .nil))))))) (.bin .mod (.bin .fdiv (.call 4 (.cons (.var 0) (.cons (.int 4) .nil))) (.int 6)) (.int 6)))) (.cons (.ret (.some (.and (.cmp .eq (.call 7 (.cons (.var 8) (.cons (.var 2) (.cons (.var 6) .nil)))) (.str "land")) (.cmp .eq (.call 7 (.cons (.var 2) (.cons (.var 8) (.cons (.int 5) .nil)))) (.str "land"))))) .nil)))))))))))))))⟩
/- Land.__init__ -/
noncomputable def f11_04 : MFun := ⟨2, 2, (.cons (.expr (.call 2 (.cons (.var 1) .nil))) (.cons (.each 2 (.var 1) (.cons (.each 3 (.var 2) (.cons (.ite (.not (.call 1 (.cons (.var 3) .nil))) (.cons (.raise 2 "a height or None is wanted") .nil) .nil) .nil)) .nil)) (.cons (.setattr (.var 0) 0 (.bf .len (.cons (.var 1) .nil))) (.cons (.setattr (.var 0) 1 (.bf .len (.cons (.sub (.var 1) (.int 0)) .nil))) (.cons (.setattr (.var 0) 2 (.comp (.bf .list (.cons (.var 4) .nil)) (.var 1) .none)) (.cons (.setattr (.var 0) 3 .dict) .nil))))))⟩
noncomputable def T_04 : Tab := ⟨[f0_04, f1_04, f2_04, f3_04, f4_04, f5_04, f6_04, f7_04, f8_04, f9_04, f10_04, f11_04], [[], [], [], [], [], [], [], [(0, 11)], []], [[0, 8], [1, 0, 8], [2, 0, 8], [3, 0, 8], [4, 0, 8], [5, 0, 8], [6, 0, 8], [7], [8]], [.int 30, .int 1000000000]⟩
noncomputable def N_04 : Names := ⟨[("whole", 0), ("is_height", 1), ("look_at_rows", 2), ("flat", 3), ("_law_cell_at", 4), ("_law_word_of", 5), ("_law_word", 6), ("_law_flat_word", 7), ("_law_is_refused", 8), ("_law_rows_wrong", 9), ("law", 10)], [("LandError", 0), ("NoLand", 1), ("NoHeight", 2), ("NoCell", 3), ("NoDrain", 4), ("NoWay", 5), ("NoRain", 6), ("Land", 7), ("ValueError", 8)], [("MOST_SIDE", 0), ("MOST_HEIGHT", 1)], [("rows", 0), ("columns", 1), ("grid", 2), ("sinks", 3)], [("__init__", 0)]⟩
noncomputable def V_04 : List (List Str) := [["thing", "low", "high"], ["thing"], ["heights", "row"], ["rows", "columns", "height"], ["_law_script", "_law_k"], ["_law_error", "_law_word_here"], ["_law_handed", "_law_error"], ["_law_rows", "_law_columns", "_law_height", "_law_error"], ["_law_handed", "_law_error"], ["_law_rows", "_law_at", "_law_kind"], ["_law_script", "_law_first", "_law_size", "_law_rows", "_law_at", "_law_kind", "_law_odd", "_law_due", "_law_wrong"], ["self", "heights", "row", "one"]]
end Mine

-- part L4A
namespace Mine.Pure
open PySem
/- a thing that is no list, no tuple and no object -/
noncomputable def Plain : Val → Prop
  | .none => True
  | .bool _ => True
  | .int _ => True
  | .str _ => True
  | _ => False
noncomputable def wholeV (lo hi : Int) : Val → Bool
  | .int i => decide (lo ≤ i) && decide (i ≤ hi)
  | _ => false
noncomputable def isH : Val → Bool
  | .none => true
  | v => wholeV 0 1000000000 v
section
variable {H : Hp} {Q : Val → Hp → Prop} {E : Nat → Hp → Prop} {d : Nat}
theorem globs_0 : T_04.globs[0]? = some (.int 30) := rfl
theorem globs_1 : T_04.globs[1]? = some (.int 1000000000) := rfl
theorem l04_whole {x : Val} {lo hi : Int} (h : Plain x) : Wp (callF T_04 (d + 1) 0 [x, .int lo, .int hi]) H Q E = Q (.bool (wholeV lo hi x)) H := by
  rw [wp_call (g := f0_04) rfl rfl, f0_04]
  cases x with
  | int i =>
    simp only [↓wp_none, ↓wp_bool, ↓wp_int, ↓wp_str, ↓wp_glob, ↓wp_var, ↓wp_bin, ↓wp_not, ↓wp_and, ↓wp_or, ↓wp_cmp, ↓wp_cmp2, ↓wp_sub, ↓wp_oNone, ↓wp_oSome, ↓wp_list, ↓wp_dict, ↓wp_callE, ↓wp_bf, ↓wp_bm, ↓wp_isinst, ↓wp_nil, ↓wp_cons, ↓wp_new, ↓wp_slice, ↓wps_nil, ↓wps_cons, ↓wps_expr, ↓wps_assign, ↓wps_ret, ↓wps_ite, ↓wps_raise, ↓wps_setattr, ↓wps_setitem, ↓wv_add, ↓wv_sub, ↓wv_mul, ↓wv_fdiv, ↓wv_mod, ↓wv_range, ↓wv_len_script, ↓wv_len_tup, ↓go_eq, ↓go_ne, ↓go_neB, ↓go_isB, ↓go_lt, ↓go_gt, ↓go_le, ↓go_isNone_none, ↓go_isNone_int, ↓wi_int_int, ↓wi_int_bool, ↓wi_int_tup, ↓wi_int_list, ↓wi_bool_int, ↓wi_bool_bool, ↓wi_bool_tup, ↓wi_none_tup, ↓wi_none_int, ↓wi_str_tup, ↓wi_str_int, ↓wi_tup_tup, ↓wi_tup_int, ↓ws_tup0, ↓ws_tup1, ↓ws_tup2, ↓getV_zero, ↓getV_s, ↓getV_n, ↓getV_succ, ↓asBool_bool, ↓getO_some, ↓brB_true, ↓brB_false, ↓brB_not, ↓wp_ret, List.map_cons, List.map_nil, List.cons_append, List.nil_append, List.set_cons_zero, List.set_cons_succ, List.replicate_succ, List.replicate_zero, Bool.not_true, Bool.not_false, and_true, true_and, and_self]
    show brB (decide (lo ≤ i)) _ _ = Q (.bool (decide (lo ≤ i) && decide (i ≤ hi))) H
    cases decide (lo ≤ i) <;> rfl
  | none => rfl
  | bool b => rfl
  | str s => rfl
  | _ => cases h
theorem l04_height {x : Val} (h : Plain x) : Wp (callF T_04 (d + 2) 1 [x]) H Q E = Q (.bool (isH x)) H := by
  rw [wp_call (g := f1_04) rfl rfl, f1_04]
  cases x with
  | none => rfl
  | int i => exact l04_whole (d := d) (E := E) (lo := 0) (hi := 1000000000) (x := .int i) trivial
  | bool b => exact l04_whole (d := d) (E := E) (lo := 0) (hi := 1000000000) (x := .bool b) trivial
  | str s => exact l04_whole (d := d) (E := E) (lo := 0) (hi := 1000000000) (x := .str s) trivial
  | _ => cases h
end
noncomputable def cellAt (ns : List Int) (k : Nat) : Int := ns.getD k 0
section
variable {H : Hp} {Q : Val → Hp → Prop} {E : Nat → Hp → Prop} {d : Nat}
theorem ws_script {ns : List Int} {k : Nat} (h : k < ns.length) : Wp (subV (.script ns) (.int (k : Int))) H Q E = Q (.int (ns.getD k 0)) H := by
  have e : ns[k]? = some (ns.getD k 0) := by rw [List.getD_eq_getElem?_getD, List.getElem?_eq_getElem h]; rfl
  rw [sub_script e]; rfl
theorem l04_cell (ns : List Int) (k : Nat) : Wp (callF T_04 (d + 1) 4 [.script ns, .int (k : Int)]) H Q E = Q (.int (cellAt ns k)) H := by
  rw [wp_call (g := f4_04) rfl rfl, f4_04]
  simp only [↓wp_none, ↓wp_bool, ↓wp_int, ↓wp_str, ↓wp_glob, ↓wp_var, ↓wp_bin, ↓wp_not, ↓wp_and, ↓wp_or, ↓wp_cmp, ↓wp_cmp2, ↓wp_sub, ↓wp_oNone, ↓wp_oSome, ↓wp_list, ↓wp_dict, ↓wp_callE, ↓wp_bf, ↓wp_bm, ↓wp_isinst, ↓wp_nil, ↓wp_cons, ↓wp_new, ↓wp_slice, ↓wps_nil, ↓wps_cons, ↓wps_expr, ↓wps_assign, ↓wps_ret, ↓wps_ite, ↓wps_raise, ↓wps_setattr, ↓wps_setitem, ↓wv_add, ↓wv_sub, ↓wv_mul, ↓wv_fdiv, ↓wv_mod, ↓wv_range, ↓wv_len_script, ↓wv_len_tup, ↓go_eq, ↓go_ne, ↓go_neB, ↓go_isB, ↓go_lt, ↓go_gt, ↓go_le, ↓go_isNone_none, ↓go_isNone_int, ↓wi_int_int, ↓wi_int_bool, ↓wi_int_tup, ↓wi_int_list, ↓wi_bool_int, ↓wi_bool_bool, ↓wi_bool_tup, ↓wi_none_tup, ↓wi_none_int, ↓wi_str_tup, ↓wi_str_int, ↓wi_tup_tup, ↓wi_tup_int, ↓ws_tup0, ↓ws_tup1, ↓ws_tup2, ↓getV_zero, ↓getV_s, ↓getV_n, ↓getV_succ, ↓asBool_bool, ↓getO_some, ↓brB_true, ↓brB_false, ↓brB_not, ↓wp_ret, List.map_cons, List.map_nil, List.cons_append, List.nil_append, List.set_cons_zero, List.set_cons_succ, List.replicate_succ, List.replicate_zero, Bool.not_true, Bool.not_false, and_true, true_and, and_self]
  by_cases q : (k : Int) < ns.length
  · rw [brB_pos q, ws_script (by omega)]; rfl
  · rw [brB_neg q]
    show Q (.int 0) H = _
    rw [show cellAt ns k = 0 by unfold cellAt; rw [List.getD_eq_getElem?_getD, List.getElem?_eq_none (by omega)]; rfl]
theorem fmod_nat (a : Int) (n : Nat) (h : 0 < n) : ∃ k : Nat, Int.fmod a n = k ∧ k < n := by
  have h1 := Int.fmod_nonneg_of_pos a (show (0 : Int) < n by omega)
  have h2 := Int.fmod_lt_of_pos a (show (0 : Int) < n by omega)
  exact ⟨(Int.fmod a n).toNat, by omega, by omega⟩
/- the words -/
noncomputable def wordOf : Nat → Str
  | 1 => "land"
  | _ => "height"
theorem l04_word1 : callF T_04 (d + 1) 5 [.exc 1] H = .ok (.str "land") H := by kernel_rfl
theorem l04_word2 : callF T_04 (d + 1) 5 [.exc 2] H = .ok (.str "height") H := by kernel_rfl
end
/-! ## what is handed, read -/
noncomputable def NoList (H : Hp) (v : Val) : Prop := ∃ k, kdOf H v = some k ∧ isKd .list k = false
theorem kdOf_ext {H H' : Hp} (e : Ext H H') {v : Val} {k : Kd} (h : kdOf H v = some k) : kdOf H' v = some k := by
  cases v with
  | loc l =>
    cases q : H[l]? with
    | none => simp only [kdOf, q] at h; cases h
    | some o => simp only [kdOf, q] at h; simp only [kdOf, e.get q]; exact h
  | _ => exact h
noncomputable def RdRow (H : Hp) (x : Val) : Option (List Val) → Prop
  | none => NoList H x
  | some hs => ∃ l, x = .loc l ∧ H[l]? = some (.list hs) ∧ ∀ h ∈ hs, Plain h
theorem RdRow.ext {H H' : Hp} (e : Ext H H') {x : Val} {r : Option (List Val)} (h : RdRow H x r) : RdRow H' x r := by
  cases r with
  | none => obtain ⟨k, a, b⟩ := h; exact ⟨k, kdOf_ext e a, b⟩
  | some hs => obtain ⟨l, a, b, c⟩ := h; exact ⟨l, a, e.get b, c⟩
noncomputable abbrev Rows := List (Option (List Val))
structure RdL (H : Hp) (l : Nat) (xs : List Val) (rs : Rows) : Prop where
  at_ : H[l]? = some (.list xs)
  len : xs.length = rs.length
  row : ∀ (i : Nat) (x : Val) (r : Option (List Val)), xs[i]? = some x → rs[i]? = some r → RdRow H x r
noncomputable def Rd (H : Hp) (v : Val) : Option Rows → Prop
  | none => NoList H v
  | some rs => ∃ l xs, v = .loc l ∧ RdL H l xs rs
theorem RdL.ext {H H' : Hp} (e : Ext H H') {l : Nat} {xs : List Val} {rs : Rows} (h : RdL H l xs rs) : RdL H' l xs rs := ⟨e.get h.at_, h.len, fun i x r a b => (h.row i x r a b).ext e⟩
theorem Rd.ext {H H' : Hp} (e : Ext H H') {v : Val} {s : Option Rows} (h : Rd H v s) : Rd H' v s := by
  cases s with
  | none => obtain ⟨k, a, b⟩ := h; exact ⟨k, kdOf_ext e a, b⟩
  | some rs => obtain ⟨l, xs, a, b⟩ := h; exact ⟨l, xs, a, b.ext e⟩
theorem RdL.get {H : Hp} {l : Nat} {xs : List Val} {rs : Rows} (h : RdL H l xs rs) {i : Nat} {x : Val} (hx : xs[i]? = some x) : ∃ r, rs[i]? = some r ∧ RdRow H x r := by
  have lt : i < rs.length := by rw [← h.len]; exact (List.getElem?_eq_some_iff.mp hx).1
  exact ⟨_, List.getElem?_eq_getElem lt, h.row i x _ hx (List.getElem?_eq_getElem lt)⟩
noncomputable def lenOk (n : Nat) : Prop := 1 ≤ n ∧ n ≤ 30
noncomputable def RowOk (r : Option (List Val)) : Prop := ∃ hs, r = some hs ∧ lenOk hs.length
noncomputable def widthOf : Option (List Val) → Nat
  | some hs => hs.length
  | none => 0
structure ShapeL (rs : Rows) : Prop where
  len : lenOk rs.length
  row : ∀ (i : Nat) r, rs[i]? = some r → RowOk r
  even : ∀ (i : Nat) r q, rs[i]? = some r → rs[0]? = some q → widthOf r = widthOf q
noncomputable def Shape : Option Rows → Prop
  | none => False
  | some rs => ShapeL rs
noncomputable def Heights : Option Rows → Prop
  | none => True
  | some rs => ∀ (i : Nat) hs, rs[i]? = some (some hs) → ∀ h ∈ hs, isH h = true
end Mine.Pure

-- part L4B
namespace Mine.Pure
open PySem
section
variable {T : Tab} {Φ : Funs} {Γ : Env'} {H : Hp} {Q : Val → Hp → Prop} {E : Nat → Hp → Prop} {d : Nat} {QS : Env' → Hp → Prop} {R : Val → Hp → Prop} {ES : Nat → Env' → Hp → Prop}
/- a loop over a list that leaves the heap as it is, and of the names turns but its own -/
theorem each_stay {i l : Nat} {it : ME} {body : MSs} {xs : List Val} (I : Nat → Prop) (S : Option Val → Env') (hS : ∀ o x, (S o).set i (some x) = S (some x)) {o : Option Val}
    (hit : wpE T Φ it (S o) H (fun v H' => v = .loc l ∧ H' = H) NoE) (hl : H[l]? = some (.list xs)) (h0 : I 0)
    (hs : ∀ k x, xs[k]? = some x → I k → wpSs T Φ body (S (some x)) H (fun Γ' H' => (∃ o, Γ' = S o) ∧ H' = H ∧ I (k + 1)) R ES)
    (hd : ∀ o, I xs.length → QS (S o) H) : wpS T Φ (.each i it body) (S o) H QS R ES := by
  apply wps_each
  refine wpE_then hit ?_
  rintro v H' ⟨rfl, e⟩
  rw [e, iter_list hl]
  show WpS (eachL (chk (some l) xs) _ _ xs _ _) _ _ _
  refine wps_eachN (fun k Γ K => (∃ o, Γ = S o) ∧ K = H ∧ I k) ⟨⟨o, rfl⟩, rfl, h0⟩ ?_ ?_ ?_
  · rintro _ _ ⟨⟨o, rfl⟩, rfl, h⟩; exact hd o h
  · rintro k _ _ _ ⟨_, rfl, _⟩; exact chk_list hl
  · rintro k x _ _ hx ⟨⟨o, rfl⟩, rfl, h⟩
    exact ⟨_, rfl, by rw [hS]; exact hs k x hx h⟩
theorem wi_nolist {v : Val} (h : NoList H v) : Wp (isinstV T v .list) H Q E = Q (.bool false) H := by
  obtain ⟨k, a, b⟩ := h
  rw [wi_kd v .list k a (by intro c h; cases h), b]
theorem wpw_len {lo hi : Int} {n : Nat} : wholeV lo hi (.int (n : Int)) = (decide (lo ≤ n) && decide ((n : Int) ≤ hi)) := rfl
/- `if not isinstance(x, list) or not whole(len(x), 1, 30): raise` -/
theorem l04_guard {i : Nat} {x : Val} {m : Str} {ss : MSs} (hi : getV Γ i = fun k => k x) (hx : NoList H x ∨ ∃ l xs, x = .loc l ∧ H[l]? = some (.list xs))
    (no : ∀ l xs, x = .loc l → H[l]? = some (.list xs) → lenOk xs.length → wpSs T_04 (callF T_04 (d + 1)) ss Γ H QS R ES)
    (yes : (NoList H x ∨ ∃ l xs, x = .loc l ∧ H[l]? = some (.list xs) ∧ ¬ lenOk xs.length) → ES 1 Γ H) :
    wpSs T_04 (callF T_04 (d + 1)) (.cons (.ite (.or (.not (.isinst (.var i) .list)) (.not (.call 0 (.cons (.bf .len (.cons (.var i) .nil)) (.cons (.int 1) (.cons (.glob 0) .nil)))))) (.cons (.raise 1 m) .nil) .nil) ss) Γ H QS R ES := by
  rcases hx with h | ⟨l, xs, rfl, h⟩
  · simp only [↓wp_none, ↓wp_bool, ↓wp_int, ↓wp_str, ↓wp_glob, ↓wp_var, ↓wp_bin, ↓wp_not, ↓wp_and, ↓wp_or, ↓wp_cmp, ↓wp_cmp2, ↓wp_sub, ↓wp_oNone, ↓wp_oSome, ↓wp_list, ↓wp_dict, ↓wp_callE, ↓wp_bf, ↓wp_bm, ↓wp_isinst, ↓wp_nil, ↓wp_cons, ↓wp_new, ↓wp_slice, ↓wps_nil, ↓wps_cons, ↓wps_expr, ↓wps_assign, ↓wps_ret, ↓wps_ite, ↓wps_raise, ↓wps_setattr, ↓wps_setitem, ↓wv_add, ↓wv_sub, ↓wv_mul, ↓wv_fdiv, ↓wv_mod, ↓wv_range, ↓wv_len_script, ↓wv_len_tup, ↓go_eq, ↓go_ne, ↓go_neB, ↓go_isB, ↓go_lt, ↓go_gt, ↓go_le, ↓go_isNone_none, ↓go_isNone_int, ↓wi_int_int, ↓wi_int_bool, ↓wi_int_tup, ↓wi_int_list, ↓wi_bool_int, ↓wi_bool_bool, ↓wi_bool_tup, ↓wi_none_tup, ↓wi_none_int, ↓wi_str_tup, ↓wi_str_int, ↓wi_tup_tup, ↓wi_tup_int, ↓ws_tup0, ↓ws_tup1, ↓ws_tup2, ↓getV_zero, ↓getV_s, ↓getV_n, ↓getV_succ, ↓asBool_bool, ↓getO_some, ↓brB_true, ↓brB_false, ↓brB_not, ↓wp_ret, List.map_cons, List.map_nil, List.cons_append, List.nil_append, List.set_cons_zero, List.set_cons_succ, List.replicate_succ, List.replicate_zero, Bool.not_true, Bool.not_false, and_true, true_and, and_self, hi]
    rw [wi_nolist h]
    exact ⟨rfl, yes (.inl h)⟩
  · simp only [↓wp_none, ↓wp_bool, ↓wp_int, ↓wp_str, ↓wp_glob, ↓wp_var, ↓wp_bin, ↓wp_not, ↓wp_and, ↓wp_or, ↓wp_cmp, ↓wp_cmp2, ↓wp_sub, ↓wp_oNone, ↓wp_oSome, ↓wp_list, ↓wp_dict, ↓wp_callE, ↓wp_bf, ↓wp_bm, ↓wp_isinst, ↓wp_nil, ↓wp_cons, ↓wp_new, ↓wp_slice, ↓wps_nil, ↓wps_cons, ↓wps_expr, ↓wps_assign, ↓wps_ret, ↓wps_ite, ↓wps_raise, ↓wps_setattr, ↓wps_setitem, ↓wv_add, ↓wv_sub, ↓wv_mul, ↓wv_fdiv, ↓wv_mod, ↓wv_range, ↓wv_len_script, ↓wv_len_tup, ↓go_eq, ↓go_ne, ↓go_neB, ↓go_isB, ↓go_lt, ↓go_gt, ↓go_le, ↓go_isNone_none, ↓go_isNone_int, ↓wi_int_int, ↓wi_int_bool, ↓wi_int_tup, ↓wi_int_list, ↓wi_bool_int, ↓wi_bool_bool, ↓wi_bool_tup, ↓wi_none_tup, ↓wi_none_int, ↓wi_str_tup, ↓wi_str_int, ↓wi_tup_tup, ↓wi_tup_int, ↓ws_tup0, ↓ws_tup1, ↓ws_tup2, ↓getV_zero, ↓getV_s, ↓getV_n, ↓getV_succ, ↓asBool_bool, ↓getO_some, ↓brB_true, ↓brB_false, ↓brB_not, ↓wp_ret, List.map_cons, List.map_nil, List.cons_append, List.nil_append, List.set_cons_zero, List.set_cons_succ, List.replicate_succ, List.replicate_zero, Bool.not_true, Bool.not_false, and_true, true_and, and_self, hi]
    rw [wi_list l xs h]
    simp only [↓wp_none, ↓wp_bool, ↓wp_int, ↓wp_str, ↓wp_glob, ↓wp_var, ↓wp_bin, ↓wp_not, ↓wp_and, ↓wp_or, ↓wp_cmp, ↓wp_cmp2, ↓wp_sub, ↓wp_oNone, ↓wp_oSome, ↓wp_list, ↓wp_dict, ↓wp_callE, ↓wp_bf, ↓wp_bm, ↓wp_isinst, ↓wp_nil, ↓wp_cons, ↓wp_new, ↓wp_slice, ↓wps_nil, ↓wps_cons, ↓wps_expr, ↓wps_assign, ↓wps_ret, ↓wps_ite, ↓wps_raise, ↓wps_setattr, ↓wps_setitem, ↓wv_add, ↓wv_sub, ↓wv_mul, ↓wv_fdiv, ↓wv_mod, ↓wv_range, ↓wv_len_script, ↓wv_len_tup, ↓go_eq, ↓go_ne, ↓go_neB, ↓go_isB, ↓go_lt, ↓go_gt, ↓go_le, ↓go_isNone_none, ↓go_isNone_int, ↓wi_int_int, ↓wi_int_bool, ↓wi_int_tup, ↓wi_int_list, ↓wi_bool_int, ↓wi_bool_bool, ↓wi_bool_tup, ↓wi_none_tup, ↓wi_none_int, ↓wi_str_tup, ↓wi_str_int, ↓wi_tup_tup, ↓wi_tup_int, ↓ws_tup0, ↓ws_tup1, ↓ws_tup2, ↓getV_zero, ↓getV_s, ↓getV_n, ↓getV_succ, ↓asBool_bool, ↓getO_some, ↓brB_true, ↓brB_false, ↓brB_not, ↓wp_ret, List.map_cons, List.map_nil, List.cons_append, List.nil_append, List.set_cons_zero, List.set_cons_succ, List.replicate_succ, List.replicate_zero, Bool.not_true, Bool.not_false, and_true, true_and, and_self, hi]
    rw [wv_len_loc h]
    show Wp (callF T_04 (d + 1) 0 [.int xs.length, .int 1, .int 30]) H _ _
    rw [l04_whole (x := .int xs.length) trivial, asBool_bool, wpw_len]
    by_cases q : lenOk xs.length
    · rw [decide_eq_true (show (1 : Int) ≤ xs.length by unfold lenOk at q; omega), decide_eq_true (show (xs.length : Int) ≤ 30 by unfold lenOk at q; omega)]
      exact no l xs rfl h q
    · have : (decide ((1 : Int) ≤ xs.length) && decide ((xs.length : Int) ≤ 30)) = false := by
        cases e : (decide ((1 : Int) ≤ xs.length) && decide ((xs.length : Int) ≤ 30)) with
        | false => rfl
        | true =>
          rw [Bool.and_eq_true, decide_eq_true_eq, decide_eq_true_eq] at e
          exact absurd (show lenOk xs.length by unfold lenOk; omega) q
      rw [this]
      exact ⟨rfl, yes (.inr ⟨l, xs, rfl, h, q⟩)⟩
theorem RdRow.two {x : Val} {r : Option (List Val)} (h : RdRow H x r) : NoList H x ∨ ∃ l xs, x = .loc l ∧ H[l]? = some (.list xs) := by
  cases r with
  | none => exact .inl h
  | some hs => obtain ⟨l, a, b, _⟩ := h; exact .inr ⟨l, hs, a, b⟩
theorem nolist_loc {l : Nat} {xs : List Val} (h : NoList H (.loc l)) (g : H[l]? = some (.list xs)) : False := by
  obtain ⟨k, a, b⟩ := h
  simp only [kdOf, g] at a
  cases a; cases b
theorem RdRow.is {l : Nat} {xs : List Val} {r : Option (List Val)} (h : RdRow H (.loc l) r) (g : H[l]? = some (.list xs)) : r = some xs ∧ ∀ h ∈ xs, Plain h := by
  cases r with
  | none => exact (nolist_loc h g).elim
  | some hs => obtain ⟨l', a, b, c⟩ := h; cases a; rw [g] at b; cases b; exact ⟨rfl, c⟩
theorem RdRow.bad {x : Val} {r : Option (List Val)} (h : RdRow H x r) (b : NoList H x ∨ ∃ l xs, x = .loc l ∧ H[l]? = some (.list xs) ∧ ¬ lenOk xs.length) : ¬ RowOk r := by
  rintro ⟨hs, rfl, ok⟩
  obtain ⟨l, rfl, g, _⟩ := h
  rcases b with b | ⟨l', xs, e, g', n⟩
  · exact nolist_loc b g
  · cases e; rw [g] at g'; cases g'; exact n ok
/- look_at_rows -/
theorem l04_look {v : Val} {s : Option Rows} (h : Rd H v s) : Wp (callF T_04 (d + 2) 2 [v]) H (fun _ H' => H' = H ∧ Shape s) (fun c H' => c = 1 ∧ H' = H ∧ ¬ Shape s) := by
  rw [wp_call (g := f2_04) rfl rfl, f2_04]
  show wpSs T_04 _ _ [some v, none] H _ _ _
  refine l04_guard (x := v) (i := 0) rfl ?_ ?_ ?_
  · cases s with
    | none => exact .inl h
    | some rs => obtain ⟨l, xs, rfl, h⟩ := h; exact .inr ⟨l, xs, rfl, h.at_⟩
  rotate_left
  · intro b
    refine ⟨rfl, rfl, fun S => ?_⟩
    cases s with
    | none => exact S
    | some rs =>
      obtain ⟨l, xs, rfl, h⟩ := h
      rcases b with b | ⟨l', ys, e, g, n⟩
      · exact nolist_loc b h.at_
      · cases e; have := h.at_; rw [g] at this; cases this; exact n (h.len ▸ S.len)
  intro l xs e g ok
  subst e
  cases s with
  | none => exact (nolist_loc h g).elim
  | some rs =>
  obtain ⟨l', xs', e, h⟩ := h
  cases e
  have e := h.at_
  rw [g] at e
  cases e
  refine wps_seq (fun Γ K => (∃ o, Γ = [some (.loc l), o]) ∧ K = H ∧ ∀ (i : Nat) r, rs[i]? = some r → RowOk r) ?_ ?_
  · refine each_stay (fun k => ∀ (i : Nat) r, i < k → rs[i]? = some r → RowOk r) (fun o => [some (.loc l), o]) (fun _ _ => rfl) ⟨rfl, rfl⟩ g (fun i r h => absurd h (Nat.not_lt_zero i)) ?_ ?_
    · intro k x hx hI
      obtain ⟨r, hr, rd⟩ := h.get hx
      refine l04_guard (x := x) (i := 1) rfl rd.two ?_ ?_
      · intro m ys e g' ok
        subst e
        obtain ⟨e, _⟩ := rd.is g'
        refine ⟨⟨_, rfl⟩, rfl, fun i r' hi hr' => ?_⟩
        rcases Nat.lt_or_eq_of_le (Nat.le_of_lt_succ hi) with lt | eq
        · exact hI i r' lt hr'
        · rw [eq, hr] at hr'; cases hr'; exact ⟨ys, e, ok⟩
      · intro b
        exact ⟨rfl, rfl, fun S => rd.bad b (S.row k r hr)⟩
    · intro o hI
      exact ⟨⟨o, rfl⟩, rfl, fun i r hr => hI i r (by rw [h.len]; exact (List.getElem?_eq_some_iff.mp hr).1) hr⟩
  rintro _ J ⟨⟨o, rfl⟩, rfl, rok⟩
  have l0 : 0 < xs.length := ok.1
  have x0 : xs[0]? = some xs[0] := List.getElem?_eq_getElem l0
  obtain ⟨r0, hr0, rd0⟩ := h.get x0
  obtain ⟨hs0, e0, _⟩ := rok 0 r0 hr0
  subst e0
  obtain ⟨l0', e0, g0, _⟩ := rd0
  refine wps_seq (fun Γ K => K = J ∧ ∀ (i : Nat) r, rs[i]? = some r → widthOf r = hs0.length) ?_ ?_
  · refine each_stay (fun k => ∀ (i : Nat) r, i < k → rs[i]? = some r → widthOf r = hs0.length) (fun o => [some (.loc l), o]) (fun _ _ => rfl) ⟨rfl, rfl⟩ g (fun i r h => absurd h (Nat.not_lt_zero i)) ?_ ?_
    · intro k x hx hI
      obtain ⟨r, hr, rd⟩ := h.get hx
      obtain ⟨hs, e, _⟩ := rok k r hr
      subst e
      obtain ⟨m, e, gm, _⟩ := rd
      subst e
      have fin : wpE T_04 (callF T_04 (d + 1)) (.cmp .ne (.bf .len (.cons (.var 1) .nil)) (.bf .len (.cons (.sub (.var 0) (.int 0)) .nil))) [some (.loc l), some (.loc m)] J (fun v K => v = .bool (!decide ((hs.length : Int) = hs0.length)) ∧ K = J) NoE := by
        simp only [↓wp_none, ↓wp_bool, ↓wp_int, ↓wp_str, ↓wp_glob, ↓wp_var, ↓wp_bin, ↓wp_not, ↓wp_and, ↓wp_or, ↓wp_cmp, ↓wp_cmp2, ↓wp_sub, ↓wp_oNone, ↓wp_oSome, ↓wp_list, ↓wp_dict, ↓wp_callE, ↓wp_bf, ↓wp_bm, ↓wp_isinst, ↓wp_nil, ↓wp_cons, ↓wp_new, ↓wp_slice, ↓wps_nil, ↓wps_cons, ↓wps_expr, ↓wps_assign, ↓wps_ret, ↓wps_ite, ↓wps_raise, ↓wps_setattr, ↓wps_setitem, ↓wv_add, ↓wv_sub, ↓wv_mul, ↓wv_fdiv, ↓wv_mod, ↓wv_range, ↓wv_len_script, ↓wv_len_tup, ↓go_eq, ↓go_ne, ↓go_neB, ↓go_isB, ↓go_lt, ↓go_gt, ↓go_le, ↓go_isNone_none, ↓go_isNone_int, ↓wi_int_int, ↓wi_int_bool, ↓wi_int_tup, ↓wi_int_list, ↓wi_bool_int, ↓wi_bool_bool, ↓wi_bool_tup, ↓wi_none_tup, ↓wi_none_int, ↓wi_str_tup, ↓wi_str_int, ↓wi_tup_tup, ↓wi_tup_int, ↓ws_tup0, ↓ws_tup1, ↓ws_tup2, ↓getV_zero, ↓getV_s, ↓getV_n, ↓getV_succ, ↓asBool_bool, ↓getO_some, ↓brB_true, ↓brB_false, ↓brB_not, ↓wp_ret, List.map_cons, List.map_nil, List.cons_append, List.nil_append, List.set_cons_zero, List.set_cons_succ, List.replicate_succ, List.replicate_zero, Bool.not_true, Bool.not_false, and_true, true_and, and_self]
        rw [wv_len_loc gm]
        refine ws_list g (Int.le_refl 0) (v := .loc l0') (by rw [← e0]; exact x0) ?_
        rw [wv_len_loc g0]
        exact ⟨rfl, rfl⟩
      rw [wps_cons, wps_ite]
      refine wpE_then fin ?_
      rintro _ _ ⟨rfl, rfl⟩
      rw [asBool_bool, brB_not]
      refine brB_split (fun q => ?_) fun q => ?_
      · refine ⟨⟨_, rfl⟩, rfl, fun i r' hi hr' => ?_⟩
        rcases Nat.lt_or_eq_of_le (Nat.le_of_lt_succ hi) with lt | eq
        · exact hI i r' lt hr'
        · rw [eq, hr] at hr'; cases hr'; exact Int.ofNat.inj q
      · exact ⟨rfl, rfl, rfl, fun S => q (congrArg Int.ofNat (S.even k _ _ hr hr0))⟩
    · intro o hI
      exact ⟨rfl, fun i r hr => hI i r (by rw [h.len]; exact (List.getElem?_eq_some_iff.mp hr).1) hr⟩
  rintro Γ _ ⟨rfl, ev⟩
  exact ⟨rfl, h.len ▸ ok, rok, fun i r q hr hq => by rw [hr0] at hq; cases hq; exact ev i r hr⟩
end
end Mine.Pure

-- part L4C
namespace Mine.Pure
open PySem
section
variable {T : Tab} {Φ : Funs} {Γ : Env'} {H : Hp} {Q : Val → Hp → Prop} {E : Nat → Hp → Prop} {d : Nat} {QS : Env' → Hp → Prop} {R : Val → Hp → Prop} {ES : Nat → Env' → Hp → Prop}
theorem wa_setattr {i c n : Nat} {fs : List (Nat × Val)} {v : Val} {Q : Unit → Hp → Prop} (h : H[i]? = some (.inst c fs)) (q : Q () (H.set i (.inst c (fput fs n v)))) : Wp (setattrV (.loc i) n v) H Q E := by
  refine Wp.of_eq ?_ q
  unfold setattrV; simp only [h]
/- a comprehension whose items only add to the heap -/
theorem comp_any {elt it : ME} {xs : List Val} {src : Option Nat} (hit : wpE T Φ it Γ H (fun v H' => H' = H ∧ iterOf v H = some (xs, src)) NoE) (hck : ∀ K, Ext H K → chk src xs K = true) (hz : xs.length < lid)
    (he : ∀ (k : Nat) x K, xs[k]? = some x → Ext H K → wpE T Φ elt (Γ ++ [some x]) K (fun v K' => Ext K K') NoE) (q : ∀ ys K, Ext H K → Q (.loc K.length) (K ++ [.list ys])) : wpE T Φ (.comp elt it .none) Γ H Q E := by
  refine wp_comp (wpE_then hit ?_)
  rintro v H' ⟨e, hi⟩
  rw [e, hi, getO_some]
  clear e
  refine wp_compN (fun k out K => Ext H K ∧ out.length = k) ⟨Ext.refl H, rfl⟩ (fun k out K h => hck K h.1) ?_ ?_
  · rintro k x out K hx ⟨e, hl⟩
    refine wp_step0 (wpE_then (he k x K hx e) ?_)
    intro v K' e'
    exact ⟨e.trans e', by rw [List.length_append, hl]; rfl⟩
  · rintro zs K ⟨e, hl⟩
    have hl : zs.length = xs.length := hl
    exact ⟨by rw [hl]; exact hz, q zs K e⟩
theorem wv_listOf {l : Nat} {xs : List Val} (h : H[l]? = some (.list xs)) (q : Q (.loc H.length) (H ++ [.list xs])) : Wp (bfV .list [.loc l]) H Q E := by
  refine Wp.of_eq ?_ q
  show (match itemsOf (.loc l) H with | some xs => M.alloc (.list xs) H | none => .bad) = _
  rw [show itemsOf (.loc l) H = some xs by simp only [itemsOf, h]]; rfl
/- the heights are looked at -/
theorem l04_heights {o l : Nat} {xs : List Val} {rs : Rows} (h : RdL H l xs rs) (S : ShapeL rs) (q : Heights (some rs) → ∀ a b, QS [some (.loc o), some (.loc l), a, b] H) (qe : ¬ Heights (some rs) → ∀ Γ, ES 2 Γ H) :
    wpS T_04 (callF T_04 (d + 2)) (.each 2 (.var 1) (.cons (.each 3 (.var 2) (.cons (.ite (.not (.call 1 (.cons (.var 3) .nil))) (.cons (.raise 2 "a height or None is wanted") .nil) .nil) .nil)) .nil)) [some (.loc o), some (.loc l), none, none] H QS R ES := by
  apply wps_each
  show getO (iterOf (.loc l) H) _
  rw [iter_list h.at_]
  show WpS (eachL (chk (some l) xs) _ _ xs _ _) _ _ _
  refine wps_eachN (fun k Γ K => (∃ a b, Γ = [some (.loc o), some (.loc l), a, b]) ∧ K = H ∧ ∀ (i : Nat) hs, i < k → rs[i]? = some (some hs) → ∀ h ∈ hs, isH h = true) ⟨⟨_, _, rfl⟩, rfl, fun i hs lt => absurd lt (Nat.not_lt_zero i)⟩ ?_ ?_ ?_
  · rintro _ _ ⟨⟨a, b, rfl⟩, rfl, hI⟩
    exact q (fun i hs hi => hI i hs (by rw [h.len]; exact (List.getElem?_eq_some_iff.mp hi).1) hi) a b
  · rintro k _ _ _ ⟨_, rfl, _⟩; exact chk_list h.at_
  · rintro k x _ J hx ⟨⟨a, b, rfl⟩, rfl, hI⟩
    obtain ⟨r, hr, rd⟩ := h.get hx
    obtain ⟨hs, e, _⟩ := S.row k r hr
    subst e
    obtain ⟨m, e, gm, pl⟩ := rd
    subst e
    refine ⟨_, rfl, ?_⟩
    show wpSs _ _ _ [some (.loc o), some (.loc l), some (.loc m), b] J _ _ _
    rw [wps_cons]
    refine each_stay (i := 3) (l := m) (fun j => ∀ (i : Nat) x, i < j → hs[i]? = some x → isH x = true) (fun o' => [some (.loc o), some (.loc l), some (.loc m), o']) (fun _ _ => rfl) ⟨rfl, rfl⟩ gm (fun i x lt => absurd lt (Nat.not_lt_zero i)) ?_ ?_
    · intro j y hy hJ
      rw [wps_cons, wps_ite, wp_not, wp_callE, wp_cons]
      show Wp (callF T_04 (d + 2) 1 [y]) J _ _
      rw [l04_height (pl y (List.mem_of_getElem? hy)), asBool_bool, asBool_bool, brB_not]
      refine brB_cases (fun e => ⟨⟨_, rfl⟩, rfl, fun i z hi hz => ?_⟩) fun e => ⟨rfl, qe (fun al => ?_) _⟩
      · rcases Nat.lt_or_eq_of_le (Nat.le_of_lt_succ hi) with lt | eq
        · exact hJ i z lt hz
        · rw [eq, hy] at hz; cases hz; exact e
      · have := al k hs hr y (List.mem_of_getElem? hy)
        rw [e] at this; cases this
    · intro o' hJ
      refine ⟨⟨_, _, rfl⟩, rfl, fun i hs' hi hi' => ?_⟩
      rcases Nat.lt_or_eq_of_le (Nat.le_of_lt_succ hi) with lt | eq
      · exact hI i hs' lt hi'
      · rw [eq, hr] at hi'; cases hi'
        intro y hy
        obtain ⟨j, hj⟩ := List.mem_iff_getElem?.mp hy
        exact hJ j y (List.getElem?_eq_some_iff.mp hj).1 hj
/- Land.__init__ behind the looks -/
theorem l04_sets {l : Nat} {xs : List Val} {rs : Rows} {a b : Option Val} (h : RdL H l xs rs) (S : ShapeL rs) (q : ∀ K Γ, Ext H K → QS Γ K) :
    wpSs T_04 (callF T_04 (d + 2)) (.cons (.setattr (.var 0) 0 (.bf .len (.cons (.var 1) .nil))) (.cons (.setattr (.var 0) 1 (.bf .len (.cons (.sub (.var 1) (.int 0)) .nil))) (.cons (.setattr (.var 0) 2 (.comp (.bf .list (.cons (.var 4) .nil)) (.var 1) .none)) (.cons (.setattr (.var 0) 3 .dict) .nil)))) [some (.loc H.length), some (.loc l), a, b] (H ++ [.inst 7 []]) QS R ES := by
  have ex : ∀ fs, Ext H ((H ++ [HObj.inst 7 []]).set H.length (.inst 7 fs)) := fun fs => Ext.set ⟨_, rfl⟩ (Nat.le_refl _) _
  have l0 : 0 < xs.length := by rw [h.len]; exact S.len.1
  have lx : xs.length < lid := by rw [h.len]; exact Nat.lt_of_le_of_lt S.len.2 (by decide)
  have x0 : xs[0]? = some xs[0] := List.getElem?_eq_getElem l0
  obtain ⟨r0, hr0, rd0⟩ := h.get x0
  obtain ⟨hs0, e0, _⟩ := S.row 0 r0 hr0
  subst e0
  obtain ⟨l0', e0, g0, _⟩ := rd0
  have row : ∀ (k : Nat) x, xs[k]? = some x → ∃ m hs, x = .loc m ∧ H[m]? = some (.list hs) := fun k x hx => by
    obtain ⟨r, hr, rd⟩ := h.get hx
    obtain ⟨hs, e, _⟩ := S.row k r hr
    subst e
    obtain ⟨m, e, gm, _⟩ := rd
    exact ⟨m, hs, e, gm⟩
  have al := h.at_
  clear h hr0 S
  show Wp (bfV .len [.loc l]) _ _ _
  rw [wv_len_loc (Ext.get ⟨_, rfl⟩ al)]
  refine wa_setattr (get_new H _) ?_
  show Wp (subV (.loc l) (.int 0)) _ _ _
  refine ws_list ((ex _).get al) (Int.le_refl 0) (v := .loc l0') (by rw [← e0]; exact x0) ?_
  show Wp (bfV .len [.loc l0']) _ _ _
  rw [wv_len_loc ((ex _).get g0)]
  refine wa_setattr (get_set _ (get_new H _)) ?_
  rw [List.set_set]
  show wpE T_04 _ (.comp (.bf .list (.cons (.var 4) .nil)) (.var 1) .none) [some (.loc H.length), some (.loc l), a, b] _ _ _
  refine comp_any (xs := xs) (src := some l) ⟨rfl, iter_list ((ex _).get al)⟩ (fun K e => chk_list (e.get ((ex _).get al))) lx ?_ ?_
  · intro k x K hx e
    obtain ⟨m, hs, e1, gm⟩ := row k x hx
    subst e1
    rw [wp_bf, wp_cons, wp_var, getV_get]
    show Wp (bfV .list [.loc m]) K _ _
    exact wv_listOf (e.get ((ex _).get gm)) ⟨_, rfl⟩
  · intro ys K e
    have o1 := e.get (get_set (HObj.inst 7 (fput (fput [] 0 (.int xs.length)) 1 (.int hs0.length))) (get_new H _))
    have e1 : Ext H K := (ex _).trans e
    clear e
    refine wa_setattr (Ext.get ⟨_, rfl⟩ o1) ?_
    have o2 := get_set (HObj.inst 7 (fput (fput (fput [] 0 (.int xs.length)) 1 (.int hs0.length)) 2 (.loc K.length))) (Ext.get (H' := K ++ [.list ys]) ⟨_, rfl⟩ o1)
    refine wa_setattr (Ext.get ⟨_, rfl⟩ o2) ?_
    exact q _ _ (((e1.new _).set (Nat.le_refl _) _).new _ |>.set (Nat.le_refl _) _)
theorem l04_new {v : Val} {s : Option Rows} (h : Rd H v s) : Wp (newV T_04 (callF T_04 (d + 3)) 7 [v]) H (fun _ H' => Ext H H' ∧ Shape s ∧ Heights s) (fun c H' => Ext H H' ∧ ((c = 1 ∧ ¬ Shape s) ∨ (c = 2 ∧ Shape s ∧ ¬ Heights s))) := by
  show Wp ((M.alloc (.inst 7 [])).bnd fun o => (callF T_04 (d + 3) 11 [o, v]).bnd fun r => match r with
    | .none => .ret o
    | _ => .bad) H _ _
  rw [wp_bnd, wp_alloc, wp_bnd]
  have e0 : Ext H (H ++ [HObj.inst 7 []]) := ⟨_, rfl⟩
  have z : Wp (callF T_04 (d + 3) 11 [.loc H.length, v]) (H ++ [HObj.inst 7 []]) (fun r H' => r = .none ∧ Ext H H' ∧ Shape s ∧ Heights s) (fun c H' => Ext H H' ∧ ((c = 1 ∧ ¬ Shape s) ∨ (c = 2 ∧ Shape s ∧ ¬ Heights s))) := by
    rw [wp_call (g := f11_04) rfl rfl, f11_04]
    rw [wps_cons, wps_expr]
    refine Wp.mono (l04_look (d := d) (h.ext e0)) ?_ ?_
    · rintro _ _ ⟨rfl, S⟩
      cases s with
      | none => exact S.elim
      | some rs =>
      obtain ⟨l, xs, e, h⟩ := h
      subst e
      rw [wps_cons]
      refine l04_heights (h.ext e0) S (fun hh a b => ?_) (fun hh Γ => ⟨e0, .inr ⟨rfl, S, hh⟩⟩)
      exact l04_sets h S fun K Γ e => ⟨rfl, e, S, hh⟩
    · rintro _ _ ⟨rfl, rfl, S⟩
      exact ⟨e0, .inl ⟨rfl, S⟩⟩
  refine z.mono ?_ fun _ _ h => h
  rintro _ _ ⟨rfl, q⟩
  exact q
/- what is due -/
inductive Due (s : Option Rows) : Str → Prop
  | fine (a : Shape s) (b : Heights s) : Due s ""
  | land (a : ¬ Shape s) : Due s "land"
  | height (a : Shape s) (b : ¬ Heights s) : Due s "height"
theorem l04_word {v : Val} {s : Option Rows} (h : Rd H v s) : Wp (callF T_04 (d + 4) 6 [v]) H (fun r H' => Ext H H' ∧ ∃ w, r = .str w ∧ Due s w) NoE := by
  rw [wp_call (g := f6_04) rfl rfl, f6_04]
  show wpSs _ _ _ [some v, none] H _ _ _
  rw [wps_cons]
  refine wps_try ?_
  rw [wps_cons, wps_expr]
  refine Wp.mono (l04_new (d := d) h) ?_ ?_
  · rintro _ H' ⟨e, S, h⟩
    exact ⟨e, _, rfl, .fine S h⟩
  · rintro c H' ⟨e, ⟨rfl, S⟩ | ⟨rfl, S, h⟩⟩
    · refine wps_hit rfl rfl ?_
      rw [wps_cons, wps_ret, wp_oSome, wp_callE, wp_cons, wp_var, List.set_cons_succ, List.set_cons_zero, getV_s, getV_zero, wp_nil]
      exact Wp.of_eq l04_word1 ⟨e, _, rfl, .land S⟩
    · refine wps_hit rfl rfl ?_
      rw [wps_cons, wps_ret, wp_oSome, wp_callE, wp_cons, wp_var, List.set_cons_succ, List.set_cons_zero, getV_s, getV_zero, wp_nil]
      exact Wp.of_eq l04_word2 ⟨e, _, rfl, .height S h⟩
theorem l04_refused {v : Val} {s : Option Rows} (h : Rd H v s) (no : ¬ (Shape s ∧ Heights s)) : Wp (callF T_04 (d + 4) 8 [v]) H (fun r H' => Ext H H' ∧ r = .bool true) NoE := by
  rw [wp_call (g := f8_04) rfl rfl, f8_04]
  show wpSs _ _ _ [some v, none] H _ _ _
  rw [wps_cons]
  refine wps_try ?_
  rw [wps_cons, wps_expr]
  refine Wp.mono (l04_new (d := d) h) ?_ ?_
  · rintro _ H' ⟨e, q⟩
    exact (no q).elim
  · rintro c H' ⟨e, ⟨rfl, S⟩ | ⟨rfl, S, h⟩⟩
    · refine wps_hit rfl rfl ?_
      exact ⟨e, rfl⟩
    · refine wps_hit rfl rfl ?_
      exact ⟨e, rfl⟩
end
end Mine.Pure

-- part L4D
namespace Mine.Pure
open PySem
section
variable {T : Tab} {Φ : Funs} {Γ : Env'} {H : Hp} {Q : Val → Hp → Prop} {E : Nat → Hp → Prop} {d : Nat} {QS : Env' → Hp → Prop} {R : Val → Hp → Prop} {ES : Nat → Env' → Hp → Prop}
theorem wb_mul {x : Nat} {v : Val} {m : Nat} (h : H[x]? = some (.list [v])) (hm : m ≤ 1000) (q : Q (.loc H.length) (H ++ [.list (List.replicate m v)])) : wpBin .mul (.loc x) (.int (m : Int)) H Q E := by
  show Wp (binV .mul (.loc x) (.int (m : Int))) H Q E
  refine Wp.of_eq ?_ q
  show (match H[x]? with
    | some (.list [v]) => if 0 ≤ (m : Int) ∧ (m : Int) ≤ 1000 then M.alloc (.list (List.replicate (m : Int).toNat v)) H else .bad
    | _ => .bad) = _
  rw [h]
  show (if 0 ≤ (m : Int) ∧ (m : Int) ≤ 1000 then M.alloc (.list (List.replicate (m : Int).toNat v)) H else .bad) = _
  rw [if_pos ⟨by omega, by omega⟩, Int.toNat_natCast]; rfl
theorem GAt.rdl {l b s : Nat} {g : List (List Val)} (G : GAt H l b s g) (pl : ∀ (i : Nat) r, g[i]? = some r → ∀ x ∈ r, Plain x) : RdL H l ((List.range g.length).map fun i => .loc (b + s * i)) (g.map some) := by
  refine ⟨G.top, by rw [List.length_map, List.length_range, List.length_map], fun i x r hx hr => ?_⟩
  rw [List.getElem?_map] at hr
  cases q : g[i]? with
  | none => rw [q] at hr; cases hr
  | some w =>
    rw [q] at hr
    cases hr
    rw [G.item (List.getElem?_eq_some_iff.mp q).1] at hx
    cases hx
    exact ⟨_, rfl, G.row i w q, pl i w q⟩
/- rows of one make -/
structure Even (g : List (List Val)) (n : Nat) : Prop where
  len : ∀ (i : Nat) w, g[i]? = some w → w.length = n
  pl : ∀ (i : Nat) w, g[i]? = some w → ∀ x ∈ w, Plain x
theorem Even.shape {g : List (List Val)} {n : Nat} (h : Even g n) (h1 : lenOk g.length) (h2 : lenOk n) : ShapeL (g.map some) := by
  have get : ∀ (i : Nat) r, (g.map some)[i]? = some r → ∃ w, g[i]? = some w ∧ r = some w := fun i r hr => by
    rw [List.getElem?_map] at hr
    cases q : g[i]? with
    | none => rw [q] at hr; cases hr
    | some w => rw [q] at hr; cases hr; exact ⟨w, rfl, rfl⟩
  refine ⟨by rw [List.length_map]; exact h1, fun i r hr => ?_, fun i r q hr hq => ?_⟩
  · obtain ⟨w, hw, rfl⟩ := get i r hr
    exact ⟨w, rfl, by rw [h.len i w hw]; exact h2⟩
  · obtain ⟨w, hw, rfl⟩ := get i r hr
    obtain ⟨w', hw', rfl⟩ := get 0 q hq
    show w.length = w'.length
    rw [h.len i w hw, h.len 0 w' hw']
theorem heights_of {g : List (List Val)} (h : ∀ (i : Nat) w, g[i]? = some w → ∀ x ∈ w, isH x = true) : Heights (some (g.map some)) := by
  intro i hs hi
  rw [List.getElem?_map] at hi
  cases q : g[i]? with
  | none => rw [q] at hi; cases hi
  | some w => rw [q] at hi; cases hi; exact h i _ q
theorem wholeV_int {lo hi : Int} {v : Val} (h : wholeV lo hi v = true) : ∃ i, v = .int i ∧ lo ≤ i ∧ i ≤ hi := by
  cases v with
  | int i =>
    have h : (decide (lo ≤ i) && decide (i ≤ hi)) = true := h
    rw [Bool.and_eq_true] at h
    exact ⟨i, rfl, of_decide_eq_true h.1, of_decide_eq_true h.2⟩
  | _ => cases h
/- flat -/
theorem l04_flat {a b h : Val} (pa : Plain a) (pb : Plain b) (ph : Plain h) : Wp (callF T_04 (d + 4) 3 [a, b, h]) H (fun _ _ => (wholeV 1 30 a && wholeV 1 30 b) = true ∧ isH h = true) (fun c _ => (c = 1 ∧ (wholeV 1 30 a && wholeV 1 30 b) = false) ∨ (c = 2 ∧ (wholeV 1 30 a && wholeV 1 30 b) = true ∧ isH h = false)) := by
  rw [wp_call (g := f3_04) rfl rfl, f3_04]
  have c1 : wpE T_04 (callF T_04 (d + 3)) (.or (.not (.call 0 (.cons (.var 0) (.cons (.int 1) (.cons (.glob 0) .nil))))) (.not (.call 0 (.cons (.var 1) (.cons (.int 1) (.cons (.glob 0) .nil)))))) [some a, some b, some h] H (fun v K => v = .bool (!(wholeV 1 30 a && wholeV 1 30 b)) ∧ K = H) NoE := by
    rw [wp_or, wp_not, wp_callE]
    show Wp (callF T_04 (d + 3) 0 [a, .int 1, .int 30]) H _ _
    rw [l04_whole pa, asBool_bool, asBool_bool, brB_not]
    cases wholeV 1 30 a with
    | false => exact ⟨rfl, rfl⟩
    | true =>
      rw [brB_true, wp_not, wp_callE]
      show Wp (callF T_04 (d + 3) 0 [b, .int 1, .int 30]) H _ _
      rw [l04_whole pb]
      exact ⟨rfl, rfl⟩
  show wpSs _ _ _ [some a, some b, some h] H _ _ _
  rw [wps_cons, wps_ite]
  refine wpE_then c1 ?_
  rintro _ J ⟨rfl, rfl⟩
  clear c1
  rw [asBool_bool, brB_not]
  refine brB_cases (fun e => ?_) fun e => ⟨rfl, .inl ⟨rfl, e⟩⟩
  rw [wps_nil, wps_cons, wps_ite, wp_not, wp_callE, wp_cons]
  show Wp (callF T_04 (d + 3) 1 [h]) J _ _
  rw [l04_height ph, asBool_bool, asBool_bool, brB_not]
  refine brB_cases (fun eh => ?_) fun eh => ⟨rfl, .inr ⟨rfl, e, eh⟩⟩
  rw [Bool.and_eq_true] at e
  obtain ⟨n, e1, n1, n2⟩ := wholeV_int e.1
  obtain ⟨m, e2, m1, m2⟩ := wholeV_int e.2
  obtain ⟨n, rfl⟩ := Int.eq_ofNat_of_zero_le (show 0 ≤ n by omega)
  obtain ⟨m, rfl⟩ := Int.eq_ofNat_of_zero_le (show 0 ≤ m by omega)
  subst e1 e2
  rw [wps_nil, wps_cons, wps_ret, wp_oSome, wp_new]
  show wpEs _ _ _ _ _ _ _
  rw [wp_cons]
  refine comp_rows (xs := rngL n) (src := none) 1 (fun _ r => r = List.replicate m h) (it_rng (by omega) ⟨rfl, rfl⟩) (fun _ _ => rfl) (by rw [rngN_len]; show n < 16777216; omega) ?_ ?_
  · intro k x K _ _
    show wpBin .mul (.loc K.length) (.int (m : Int)) (K ++ [.list [h]]) _ _
    refine wb_mul (get_new K _) (by omega) ⟨_, rfl, ?_, ⟨_, List.append_assoc ..⟩, ?_, ?_⟩
    · rw [List.length_append]; rfl
    · rw [List.length_append, List.length_append]; rfl
    · have := get_new (K ++ [HObj.list [h]]) (HObj.list (List.replicate m h))
      rw [List.length_append] at this
      exact this
  · intro g K gl gp eK G _
    rw [rngN_len] at gl
    have ev : Even g m := ⟨fun i w hw => by rw [gp i w hw, List.length_replicate], fun i w hw x hx => by rw [gp i w hw] at hx; rw [List.eq_of_mem_replicate hx]; exact ph⟩
    have hh := heights_of (g := g) fun i w hw x hx => by rw [gp i w hw] at hx; rw [List.eq_of_mem_replicate hx]; exact eh
    have S := ev.shape (by unfold lenOk; omega) (by unfold lenOk; omega)
    rw [wp_nil]
    have e' : (wholeV 1 30 (.int (n : Int)) && wholeV 1 30 (.int (m : Int))) = true := by rw [e.1, e.2]; rfl
    refine Wp.mono (l04_new (d := d) (s := some (g.map some)) ⟨_, _, rfl, G.rdl ev.pl⟩) (fun _ _ _ => ⟨e', eh⟩) ?_
    rintro c _ ⟨_, ⟨_, no⟩ | ⟨_, _, no⟩⟩
    · exact (no S).elim
    · exact (no hh).elim
/- the word for flat -/
noncomputable def flatDue (a b h : Val) : Str := if (wholeV 1 30 a && wholeV 1 30 b) = true then (if isH h = true then "" else "height") else "land"
theorem l04_flatw {a b h : Val} (pa : Plain a) (pb : Plain b) (ph : Plain h) : Wp (callF T_04 (d + 5) 7 [a, b, h]) H (fun r _ => r = .str (flatDue a b h)) NoE := by
  rw [wp_call (g := f7_04) rfl rfl, f7_04]
  show wpSs _ _ _ [some a, some b, some h, none] H _ _ _
  rw [wps_cons]
  refine wps_try ?_
  rw [wps_cons, wps_expr]
  refine Wp.mono (l04_flat (d := d) pa pb ph) ?_ ?_
  · rintro _ _ ⟨e, eh⟩
    show Val.str "" = .str (flatDue a b h)
    unfold flatDue
    rw [if_pos e, if_pos eh]
  · rintro c K (⟨rfl, e⟩ | ⟨rfl, e, eh⟩)
    · refine wps_miss rfl rfl (wps_hit rfl rfl ?_)
      rw [wps_cons, wps_ret, wp_oSome, wp_callE, wp_cons, wp_var, List.set_cons_succ, List.set_cons_succ, List.set_cons_succ, List.set_cons_zero, getV_s, getV_s, getV_s, getV_zero, wp_nil]
      refine Wp.of_eq l04_word1 ?_
      unfold flatDue
      rw [e, if_neg (by decide)]
    · refine wps_hit rfl rfl ?_
      rw [wps_cons, wps_ret, wp_oSome, wp_callE, wp_cons, wp_var, List.set_cons_succ, List.set_cons_succ, List.set_cons_succ, List.set_cons_zero, getV_s, getV_s, getV_s, getV_zero, wp_nil]
      refine Wp.of_eq l04_word2 ?_
      unfold flatDue
      rw [if_pos e, eh, if_neg (by decide)]
end
end Mine.Pure

-- part L4E
namespace Mine.Pure
open PySem
section
variable {T : Tab} {Φ : Funs} {Γ : Env'} {H : Hp} {Q : Val → Hp → Prop} {E : Nat → Hp → Prop} {d : Nat} {QS : Env' → Hp → Prop} {R : Val → Hp → Prop} {ES : Nat → Env' → Hp → Prop}
theorem wb_add {x y : Nat} {xs ys : List Val} (h1 : H[x]? = some (.list xs)) (h2 : H[y]? = some (.list ys)) (hl : xs.length + ys.length ≤ 1000) (q : Q (.loc H.length) (H ++ [.list (xs ++ ys)])) : wpBin .add (.loc x) (.loc y) H Q E := by
  show Wp (binV .add (.loc x) (.loc y)) H Q E
  refine Wp.of_eq ?_ q
  show (match H[x]?, H[y]? with
    | some (.list xs), some (.list ys) => if xs.length + ys.length ≤ lid then M.alloc (.list (xs ++ ys)) H else .bad
    | _, _ => .bad) = _
  rw [h1, h2]
  show (if xs.length + ys.length ≤ lid then M.alloc (.list (xs ++ ys)) H else .bad) = _
  exact if_pos (show xs.length + ys.length ≤ 16777216 by omega)
theorem wb_slice {x : Nat} {xs : List Val} {lo hi : Val} {p : Bool × Nat} (h : H[x]? = some (.list xs)) (hp : cutOf lo hi = some p) (q : Q (.loc H.length) (H ++ [.list (cut p xs)])) : Wp (sliceV (.loc x) lo hi) H Q E := by
  refine Wp.of_eq ?_ q
  unfold sliceV
  rw [hp]
  show (match itemsOf (.loc x) H with
    | some xs => if isTup (.loc x) = true then Res.bad else M.alloc (.list (cut p xs)) H
    | none => Res.bad) = _
  rw [show itemsOf (.loc x) H = some xs by simp only [itemsOf, h]]; rfl
theorem RdL.app {l m p : Nat} {xs ys : List Val} {rs ss : Rows} (h1 : RdL H l xs rs) (h2 : RdL H m ys ss) (h3 : H[p]? = some (.list (xs ++ ys))) : RdL H p (xs ++ ys) (rs ++ ss) := by
  refine ⟨h3, by rw [List.length_append, List.length_append, h1.len, h2.len], fun i x r hx hr => ?_⟩
  by_cases c : i < xs.length
  · rw [List.getElem?_append_left c] at hx
    rw [List.getElem?_append_left (by rw [← h1.len]; exact c)] at hr
    exact h1.row i x r hx hr
  · rw [List.getElem?_append_right (Nat.le_of_not_lt c)] at hx
    rw [List.getElem?_append_right (by rw [← h1.len]; exact Nat.le_of_not_lt c), ← h1.len] at hr
    exact h2.row _ x r hx hr
set_option tactic.hygienic true in
theorem RdL.cut {l m : Nat} {xs : List Val} {rs : Rows} (p : Bool × Nat) (h : RdL H l xs rs) (h3 : H[m]? = some (.list (cut p xs))) : RdL H m (Mine.cut p xs) (Mine.cut p rs) := by
  obtain ⟨b, k⟩ := p
  cases b with
  | true =>
    refine ⟨h3, ?_, fun i x r hx hr => ?_⟩
    · show (xs.drop k).length = (rs.drop k).length
      rw [List.length_drop, List.length_drop, h.len]
    · have hx : (xs.drop k)[i]? = some x := hx
      have hr : (rs.drop k)[i]? = some r := hr
      rw [List.getElem?_drop] at hx hr
      exact h.row _ x r hx hr
  | false =>
    refine ⟨h3, ?_, fun i x r hx hr => ?_⟩
    · show (xs.take k).length = (rs.take k).length
      rw [List.length_take, List.length_take, h.len]
    · have hx : (xs.take k)[i]? = some x := hx
      have hr : (rs.take k)[i]? = some r := hr
      rw [List.getElem?_take] at hx hr
      split at hx
      · rename_i c
        rw [if_pos c] at hr
        exact h.row _ x r hx hr
      · cases hx
theorem RdL.one {l : Nat} {x : Val} {r : Option (List Val)} (h : RdRow H x r) (h3 : H[l]? = some (.list [x])) : RdL H l [x] [r] := by
  refine ⟨h3, rfl, fun i y q hx hr => ?_⟩
  cases i with
  | zero => cases hx; cases hr; exact h
  | succ i => cases hx
theorem noShape_row {rs : Rows} {i : Nat} {r : Option (List Val)} (h : rs[i]? = some r) (n : ¬ RowOk r) : ¬ Shape (some rs) := fun S => n (S.row i r h)
theorem noShape_len {rs : Rows} (h : ¬ lenOk rs.length) : ¬ Shape (some rs) := fun S => h S.len
theorem cut_len {α : Type} (p : Bool × Nat) (xs : List α) : (cut p xs).length ≤ xs.length := by
  obtain ⟨b, k⟩ := p
  cases b with
  | true => show (xs.drop k).length ≤ _; rw [List.length_drop]; omega
  | false => show (xs.take k).length ≤ _; rw [List.length_take]; omega
/- what is handed to rows_wrong -/
structure In4 (H : Hp) (l b s a n : Nat) (g : List (List Val)) : Prop where
  grid : GAt H l b s g
  ev : Even g n
  rows : 1 ≤ g.length ∧ g.length ≤ 4
  wide : 1 ≤ n ∧ n ≤ 4
  at_ : a < g.length
  sep : 1 ≤ s
  off : b + s * a ≠ l
/- what comes back -/
noncomputable def Out4 (v : Val) (H' : Hp) : Prop := ∃ s, Rd H' v s ∧ ¬ Shape s
variable {l b s a n : Nat} {g : List (List Val)}
theorem In4.item (I : In4 H l b s a n g) {i : Nat} (hi : i < g.length) {E : Nat → Hp → Prop} {K : Hp} (e : Ext H K) (q : Q (.loc (b + s * i)) K) : Wp (subV (.loc l) (.int (i : Int))) K Q E :=
  ws_list (e.get I.grid.top) (by omega) (by rw [Int.toNat_natCast]; exact I.grid.item hi) q
noncomputable abbrev Γ4 (l a k : Nat) : Env' := [some (.loc l), some (.int (a : Int)), some (.int (k : Int))]
theorem rw_0 : Out4 (.loc H.length) (H ++ [.list []]) := ⟨some [], ⟨_, [], rfl, get_new H _, rfl, fun i x r h => by cases h⟩, noShape_len (by unfold lenOk; decide)⟩
theorem len_xs (g : List (List Val)) (b s : Nat) : ((List.range g.length).map fun i => Val.loc (b + s * i)).length = g.length := by rw [List.length_map, List.length_range]
theorem rw_1 (I : In4 H l b s a n g) : wpE T_04 Φ (.bin .add (.var 0) (.comp (.bf .list (.cons (.sub (.var 0) (.int 0)) .nil)) (.bf .range (.cons (.bin .sub (.int 31) (.bf .len (.cons (.var 0) .nil))) .nil)) .none)) (Γ4 l a 1) H Out4 NoE := by
  have hr := I.rows
  rw [wp_bin]
  show wpE _ _ _ _ _ _ _
  have i0 : g[0]? = some g[0] := List.getElem?_eq_getElem (by omega)
  refine comp_rows (xs := rngL ((31 - g.length : Nat) : Int)) (src := none) 0 (fun _ r => r = g[0]) (it_rng (by omega) ?_) (fun _ _ => rfl) (by rw [rngN_len]; show _ < 16777216; omega) ?_ ?_
  · rw [wp_bin]
    show Wp (bfV .len [.loc l]) H _ _
    rw [wv_len_loc I.grid.top, len_xs]
    exact ⟨congrArg Val.int (show (31 : Int) - (g.length : Int) = ((31 - g.length : Nat) : Int) by omega), rfl⟩
  · intro k x K _ e
    rw [wp_bf, wp_cons]
    show Wp (subV (.loc l) (.int ((0 : Nat) : Int))) K _ _
    refine I.item (by omega) e ?_
    exact wv_listOf (e.get (I.grid.row 0 _ i0)) ⟨_, rfl, rfl, ⟨_, rfl⟩, by rw [List.length_append]; rfl, get_new K _⟩
  · intro g' K gl gp e G' hK
    rw [rngN_len] at gl
    have ev' : ∀ (i : Nat) r, g'[i]? = some r → ∀ x ∈ r, Plain x := fun i r hr => by rw [gp i r hr]; exact I.ev.pl 0 _ i0
    refine wb_add (e.get I.grid.top) G'.top (by rw [len_xs, len_xs]; omega) ?_
    refine ⟨some (g.map some ++ g'.map some), ⟨_, _, rfl, RdL.app (((I.grid.rdl I.ev.pl).ext e).ext ⟨_, rfl⟩) ((G'.rdl ev').ext ⟨_, rfl⟩) (get_new K _)⟩, noShape_len ?_⟩
    rw [List.length_append, List.length_map, List.length_map]
    unfold lenOk; omega
theorem noRow_len {w : List Val} (h : ¬ lenOk w.length) : ¬ RowOk (some w) := by
  rintro ⟨hs, e, ok⟩
  cases e; exact h ok
theorem rows_out {K : Hp} {l' b' s' : Nat} {g' : List (List Val)} (G : GAt K l' b' s' g') (pl : ∀ (i : Nat) r, g'[i]? = some r → ∀ x ∈ r, Plain x) (h0 : 0 < g'.length) (no : ∀ (i : Nat) r, g'[i]? = some r → ¬ lenOk r.length) : Out4 (.loc l') K := by
  have i0 : g'[0]? = some g'[0] := List.getElem?_eq_getElem h0
  exact ⟨some (g'.map some), ⟨_, _, rfl, G.rdl pl⟩, noShape_row (i := 0) (by rw [List.getElem?_map, i0]; rfl) (noRow_len (no 0 _ i0))⟩
theorem rw_2 (I : In4 H l b s a n g) : wpE T_04 Φ (.comp (.bin .add (.bf .list (.cons (.var 3) .nil)) (.bin .mul (.list (.cons (.int 0) .nil)) (.bin .sub (.int 31) (.bf .len (.cons (.var 3) .nil))))) (.var 0) .none) (Γ4 l a 2) H Out4 NoE := by
  have hr := I.rows
  have hn := I.wide
  refine comp_rows (xs := (List.range g.length).map fun i => Val.loc (b + s * i)) (src := some l) 3 (fun _ r => r.length = 31 ∧ ∀ x ∈ r, Plain x) ⟨rfl, iter_list I.grid.top⟩ (fun K e => chk_list (e.get I.grid.top)) (by rw [len_xs]; show _ < 16777216; omega) ?_ ?_
  · intro k x K hx e
    have lt : k < g.length := by have := (List.getElem?_eq_some_iff.mp hx).1; rw [len_xs] at this; exact this
    rw [I.grid.item lt] at hx
    cases hx
    have hg : g[k]? = some g[k] := List.getElem?_eq_getElem lt
    have rk := e.get (I.grid.row k _ hg)
    have nk := I.ev.len k _ hg
    rw [wp_bin, wp_bf, wp_cons]
    show Wp (bfV .list [.loc (b + s * k)]) K _ _
    refine wv_listOf rk ?_
    rw [wp_bin]
    show Wp (bfV .len [.loc (b + s * k)]) (K ++ [.list g[k]] ++ [.list [.int 0]]) _ _
    rw [wv_len_loc (Ext.get ⟨_, rfl⟩ (Ext.get ⟨_, rfl⟩ rk)), nk]
    show wpBin .mul (.loc (K ++ [HObj.list g[k]]).length) (.int (31 - (n : Int))) _ _ _
    rw [show (31 : Int) - (n : Int) = ((31 - n : Nat) : Int) by omega]
    refine wb_mul (get_new _ _) (by omega) ?_
    have e1 : (K ++ [HObj.list g[k]] ++ [HObj.list [Val.int 0]] ++ [HObj.list (List.replicate (31 - n) (Val.int 0))])[K.length]? = some (.list g[k]) := Ext.get ⟨_, rfl⟩ (Ext.get ⟨_, rfl⟩ (get_new K _))
    refine wb_add e1 (get_new _ _) (by rw [nk, List.length_replicate]; omega) ?_
    refine ⟨g[k] ++ List.replicate (31 - n) (Val.int 0), ⟨by rw [List.length_append, nk, List.length_replicate]; omega, fun x hx => ?_⟩, ?_, ?_, ?_, ?_⟩
    · rcases List.mem_append.mp hx with h | h
      · exact I.ev.pl k _ hg x h
      · rw [List.eq_of_mem_replicate h]; trivial
    · rw [List.length_append, List.length_append, List.length_append]; rfl
    · exact Ext.trans ⟨_, rfl⟩ (Ext.trans ⟨_, rfl⟩ (Ext.trans ⟨_, rfl⟩ ⟨_, rfl⟩))
    · rw [List.length_append, List.length_append, List.length_append, List.length_append]; rfl
    · have := get_new (K ++ [HObj.list g[k]] ++ [HObj.list [Val.int 0]] ++ [HObj.list (List.replicate (31 - n) (Val.int 0))]) (HObj.list (g[k] ++ List.replicate (31 - n) (Val.int 0)))
      rw [List.length_append, List.length_append, List.length_append] at this
      exact this
  · intro g' K gl gp e G' hK
    rw [len_xs] at gl
    exact rows_out G' (fun i r h => (gp i r h).2) (by omega) fun i r h => by rw [(gp i r h).1]; unfold lenOk; decide
theorem rw_3 (I : In4 H l b s a n g) : wpE T_04 Φ (.comp (.list .nil) (.var 0) .none) (Γ4 l a 3) H Out4 NoE := by
  have hr := I.rows
  refine comp_rows (xs := (List.range g.length).map fun i => Val.loc (b + s * i)) (src := some l) 0 (fun _ r => r = []) ⟨rfl, iter_list I.grid.top⟩ (fun K e => chk_list (e.get I.grid.top)) (by rw [len_xs]; show _ < 16777216; omega) ?_ ?_
  · intro k x K hx e
    exact ⟨[], rfl, rfl, ⟨_, rfl⟩, by rw [List.length_append]; rfl, get_new K _⟩
  · intro g' K gl gp e G' hK
    rw [len_xs] at gl
    exact rows_out G' (fun i r h => by rw [gp i r h]; intro x hx; cases hx) (by omega) fun i r h => by rw [gp i r h]; unfold lenOk; decide
end
end Mine.Pure

-- part L4F
namespace Mine.Pure
open PySem
section
variable {T : Tab} {Φ : Funs} {Γ : Env'} {H : Hp} {Q : Val → Hp → Prop} {E : Nat → Hp → Prop} {d : Nat} {QS : Env' → Hp → Prop} {R : Val → Hp → Prop} {ES : Nat → Env' → Hp → Prop} {l b s a n : Nat} {g : List (List Val)}
/- a row of a grid is exchanged -/
theorem GAt.put (G : GAt H l b s g) (hs : 1 ≤ s) {a : Nat} (hl : b + s * a ≠ l) (ha : a < g.length) (w : List Val) : GAt (H.set (b + s * a) (.list w)) l b s (g.set a w) := by
  refine ⟨?_, fun i r h => ?_⟩
  · rw [List.length_set]
    exact get_other _ hl G.top
  · by_cases c : i = a
    · subst c
      rw [List.getElem?_set_self ha] at h
      cases h
      exact get_set _ (G.row i _ (List.getElem?_eq_getElem ha))
    · rw [List.getElem?_set_ne (fun e => c e.symm)] at h
      refine get_other _ (fun e => c ?_) (G.row i r h)
      have e : s * a = s * i := by omega
      exact (Nat.eq_of_mul_eq_mul_left (by omega) e).symm
theorem plain_set {a : Nat} {w : List Val} (h : ∀ (i : Nat) r, g[i]? = some r → ∀ x ∈ r, Plain x) (hw : ∀ x ∈ w, Plain x) : ∀ (i : Nat) r, (g.set a w)[i]? = some r → ∀ x ∈ r, Plain x := by
  intro i r hr
  rw [List.getElem?_set] at hr
  split at hr
  · split at hr
    · cases hr; exact hw
    · cases hr
  · exact h i r hr
theorem rw_4 (I : In4 H l b s a n g) : wpSs T_04 Φ (.cons (.expr (.bm (.sub (.var 0) (.var 1)) .append (.cons (.int 0) .nil))) (.cons (.ret (.some (.bin .add (.bin .add (.var 0) (.list (.cons (.bf .list (.cons (.sub (.var 0) (.int 0)) .nil)) .nil))) (.list (.cons (.slice (.sub (.var 0) (.int 0)) (.some (.int 1)) .none) .nil))))) .nil)) (Γ4 l a 4) H QS Out4 NoX := by
  have hr := I.rows
  have hn := I.wide
  obtain ⟨ra, ga⟩ : ∃ w, g[a]? = some w := ⟨_, List.getElem?_eq_getElem I.at_⟩
  have G1 := I.grid.put I.sep I.off I.at_ (ra ++ [.int 0])
  have p1 : ∀ (i : Nat) r, (g.set a (ra ++ [.int 0]))[i]? = some r → ∀ x ∈ r, Plain x := plain_set I.ev.pl fun x hx => by
    rcases List.mem_append.mp hx with h | h
    · exact I.ev.pl a _ ga x h
    · cases List.mem_singleton.mp h; trivial
  have l1 : ∀ w, (g.set a (ra ++ [.int 0]))[0]? = some w → 1 ≤ w.length ∧ w.length ≤ 5 := fun w hw => by
    rw [List.getElem?_set] at hw
    split at hw
    · split at hw
      · cases hw; rw [List.length_append, I.ev.len a _ ga]; exact ⟨by omega, by show _ + 1 ≤ 5; omega⟩
      · cases hw
    · rw [I.ev.len 0 w hw]; omega
  have len1 : (g.set a (ra ++ [.int 0])).length = g.length := List.length_set
  rw [wps_cons, wps_expr, wp_bm]
  show Wp (subV (.loc l) (.int (a : Int))) H _ _
  refine I.item I.at_ (Ext.refl H) ?_
  rw [fits_append (I.grid.row a _ ga)]
  show Wp (bmV .append (.loc (b + s * a)) [.int 0]) H _ _
  refine wm_append (I.grid.row a _ ga) (by rw [I.ev.len a _ ga]; show n < 16777216; omega) ?_
  generalize H.set (b + s * a) (.list (ra ++ [.int 0])) = J at G1 ⊢
  generalize g.set a (ra ++ [.int 0]) = g1 at G1 p1 l1 len1 ⊢
  obtain ⟨w, i0⟩ : ∃ w, g1[0]? = some w := ⟨_, List.getElem?_eq_getElem (by omega)⟩
  have r0 := G1.row 0 _ i0
  have pl0 := p1 0 _ i0
  have ll := l1 _ i0
  have R1 := G1.rdl p1
  have sub0 : ∀ {K : Hp} {Q : Val → Hp → Prop} {E : Nat → Hp → Prop}, Ext J K → Q (.loc (b + s * 0)) K → Wp (subV (.loc l) (.int 0)) K Q E := fun e q => ws_list (e.get G1.top) (Int.le_refl 0) (G1.item (by omega)) q
  have top := G1.top
  clear G1 p1 l1 I ga
  rw [wps_cons, wps_ret, wp_oSome, wp_bin, wp_bin]
  rw [wp_var, getV_zero, wp_list, wp_cons, wp_bf, wp_cons]
  show Wp (subV (.loc l) (.int 0)) J _ _
  refine sub0 (Ext.refl J) ?_
  show Wp (bfV .list [.loc (b + s * 0)]) J _ _
  refine wv_listOf r0 ?_
  have e1 : Ext J (J ++ [HObj.list w]) := ⟨_, rfl⟩
  have e2 := e1.new (.list [.loc J.length])
  have q1 : RdL (J ++ [HObj.list w] ++ [HObj.list [Val.loc J.length]]) (J ++ [HObj.list w]).length [.loc J.length] [some w] := RdL.one ⟨_, rfl, Ext.get ⟨_, rfl⟩ (get_new J _), pl0⟩ (get_new _ _)
  refine wb_add (e2.get top) q1.at_ (by rw [len_xs, len1]; show _ + 1 ≤ 1000; omega) ?_
  have q2 := RdL.app ((R1.ext e2).ext ⟨[.list (((List.range g1.length).map fun i => Val.loc (b + s * i)) ++ [Val.loc J.length])], rfl⟩) (q1.ext ⟨_, rfl⟩) (get_new _ _)
  have e3 := e2.new (.list (((List.range g1.length).map fun i => Val.loc (b + s * i)) ++ [Val.loc J.length]))
  generalize (J ++ [HObj.list w] ++ [HObj.list [Val.loc J.length]]).length = p at q2 ⊢
  generalize (J ++ [HObj.list w] ++ [HObj.list [Val.loc J.length]] ++ [HObj.list (((List.range g1.length).map fun i => Val.loc (b + s * i)) ++ [Val.loc J.length])]) = K at q2 e3 ⊢
  have lq : (((List.range g1.length).map fun i => Val.loc (b + s * i)) ++ [Val.loc J.length]).length = g.length + 1 := by rw [List.length_append, len_xs, len1]; rfl
  generalize (((List.range g1.length).map fun i => Val.loc (b + s * i)) ++ [Val.loc J.length]) = ys at q2 lq ⊢
  clear q1 e1 e2 R1
  rw [wp_list, wp_cons, wp_slice]
  show Wp (subV (.loc l) (.int 0)) K _ _
  refine sub0 e3 ?_
  show Wp (sliceV (.loc (b + s * 0)) (.int 1) .none) K _ _
  refine wb_slice (p := (true, 1)) (e3.get r0) rfl ?_
  have e4 : Ext K (K ++ [HObj.list (w.drop 1)]) := ⟨_, rfl⟩
  have e5 := e4.new (.list [.loc K.length])
  have q3 : RdL (K ++ [HObj.list (w.drop 1)] ++ [HObj.list [.loc K.length]]) (K ++ [HObj.list (w.drop 1)]).length [.loc K.length] [some (w.drop 1)] := RdL.one ⟨_, rfl, Ext.get ⟨_, rfl⟩ (get_new K _), fun x hx => pl0 x (List.mem_of_mem_drop hx)⟩ (get_new _ _)
  refine wb_add (e5.get q2.at_) q3.at_ (by rw [lq]; show _ + 1 ≤ 1000; omega) ?_
  refine ⟨some (g1.map some ++ [some w] ++ [some (w.drop 1)]), ⟨_, _, rfl, RdL.app ((q2.ext e5).ext ⟨_, rfl⟩) (q3.ext ⟨_, rfl⟩) (get_new _ _)⟩, fun S => ?_⟩
  have z := S.even (g.length + 1) (some (w.drop 1)) (some w) (by rw [List.getElem?_append_right (by rw [List.length_append, List.length_map, len1]; exact Nat.le_refl _), List.length_append, List.length_map, len1]; show [some (w.drop 1)][g.length + 1 - (g.length + 1)]? = _; rw [Nat.sub_self]; rfl) (by rw [List.getElem?_append_left (by rw [List.length_append]; show 0 < _ + 1; omega), List.getElem?_append_left (by rw [List.length_map]; omega), List.getElem?_map, i0]; rfl)
  have z : (w.drop 1).length = w.length := z
  rw [List.length_drop] at z
  omega
theorem rw_5 (I : In4 H l b s a n g) : wpE T_04 Φ (.bin .add (.bin .add (.slice (.var 0) .none (.some (.var 1))) (.list (.cons (.bf .tuple (.cons (.sub (.var 0) (.var 1)) .nil)) .nil))) (.slice (.var 0) (.some (.bin .add (.var 1) (.int 1))) .none)) (Γ4 l a 5) H Out4 NoE := by
  have hr := I.rows
  have at_ := I.at_
  obtain ⟨ra, ga⟩ : ∃ w, g[a]? = some w := ⟨_, List.getElem?_eq_getElem I.at_⟩
  have R1 := I.grid.rdl I.ev.pl
  have top := I.grid.top
  rw [wp_bin, wp_bin, wp_slice]
  show Wp (sliceV (.loc l) .none (.int (a : Int))) H _ _
  have lx := len_xs g b s
  refine wb_slice (p := (false, a)) top (by show (if 0 ≤ (a : Int) then some (false, (a : Int).toNat) else none) = _; rw [if_pos (by omega), Int.toNat_natCast]) ?_
  have e1 : Ext H (H ++ [HObj.list (cut (false, a) ((List.range g.length).map fun i => Val.loc (b + s * i)))]) := ⟨_, rfl⟩
  have q1 := RdL.cut (false, a) (R1.ext e1) (get_new H _)
  rw [wp_list, wp_cons, wp_bf, wp_cons]
  show Wp (subV (.loc l) (.int (a : Int))) _ _ _
  refine I.item I.at_ e1 ?_
  have tu : ∀ {K : Hp} {m : Nat} {ws : List Val} {Q : Val → Hp → Prop} {E : Nat → Hp → Prop}, K[m]? = some (.list ws) → Q (.tup ws) K → Wp (bfV .tuple [.loc m]) K Q E := fun {K m ws Q E} h q => by
    refine Wp.of_eq ?_ q
    show (match itemsOf (.loc m) K with | some xs => Res.ok (Val.tup xs) K | none => Res.bad) = _
    rw [show itemsOf (.loc m) K = some ws by simp only [itemsOf, h]]
  show Wp (bfV .tuple [.loc (b + s * a)]) _ _ _
  refine tu (e1.get (I.grid.row a _ ga)) ?_
  clear tu I
  generalize ((List.range g.length).map fun i => Val.loc (b + s * i)) = xs at *
  generalize (H ++ [HObj.list (cut (false, a) xs)]) = K at *
  have e2 : Ext K (K ++ [HObj.list [.tup ra]]) := ⟨_, rfl⟩
  have q2 : RdL (K ++ [HObj.list [.tup ra]]) K.length [.tup ra] [none] := RdL.one ⟨.tuple, rfl, rfl⟩ (get_new K _)
  have c1 := cut_len (false, a) xs
  refine wb_add (e2.get q1.at_) q2.at_ (by show _ + 1 ≤ 1000; omega) ?_
  have q3 := RdL.app ((q1.ext e2).ext ⟨[.list (cut (false, a) xs ++ [.tup ra])], rfl⟩) (q2.ext ⟨_, rfl⟩) (get_new _ _)
  have e3 := (e1.trans e2).new (.list (cut (false, a) xs ++ [.tup ra]))
  have R3 := R1.ext e3
  clear q1 q2
  generalize (K ++ [HObj.list [Val.tup ra]] ++ [HObj.list (cut (false, a) xs ++ [.tup ra])]) = L at *
  generalize (K ++ [HObj.list [Val.tup ra]]).length = p at *
  show Wp (sliceV (.loc l) (.int ((a : Int) + 1)) .none) L _ _
  refine wb_slice (p := (true, a + 1)) (e3.get top) (by show (if 0 ≤ (a : Int) + 1 then some (true, ((a : Int) + 1).toNat) else none) = _; rw [if_pos (by omega), show ((a : Int) + 1).toNat = a + 1 by omega]) ?_
  have q4 := RdL.cut (true, a + 1) (R3.ext ⟨[HObj.list (cut (true, a + 1) xs)], rfl⟩) (get_new L _)
  have c2 := cut_len (true, a + 1) xs
  refine wb_add (Ext.get ⟨_, rfl⟩ q3.at_) q4.at_ (by rw [List.length_append]; show _ + 1 + _ ≤ 1000; omega) ?_
  refine ⟨some (cut (false, a) (g.map some) ++ [none] ++ cut (true, a + 1) (g.map some)), ⟨_, _, rfl, RdL.app ((q3.ext ⟨_, rfl⟩).ext ⟨_, rfl⟩) (q4.ext ⟨_, rfl⟩) (get_new _ _)⟩, noShape_row (i := a) (r := none) ?_ ?_⟩
  · have lc : (cut (false, a) (g.map some)).length = a := by show ((g.map some).take a).length = a; rw [List.length_take, List.length_map]; omega
    rw [List.getElem?_append_left (by rw [List.length_append, lc]; show a < a + 1; omega), List.getElem?_append_right (by omega), lc, Nat.sub_self]; rfl
  · rintro ⟨hs, e, _⟩; cases e
theorem rw_6 (I : In4 H l b s a n g) : wpE T_04 Φ (.bf .tuple (.cons (.var 0) .nil)) (Γ4 l a 6) H Out4 NoE := by
  show Wp (bfV .tuple [.loc l]) H _ _
  refine Wp.of_eq (H' := H) (a := .tup ((List.range g.length).map fun i => Val.loc (b + s * i))) ?_ ⟨none, ⟨.tuple, rfl, rfl⟩, fun h => h⟩
  show (match itemsOf (.loc l) H with | some xs => Res.ok (Val.tup xs) H | none => Res.bad) = _
  rw [show itemsOf (.loc l) H = some ((List.range g.length).map fun i => Val.loc (b + s * i)) by simp only [itemsOf, I.grid.top]]
theorem rw_7 : wpE T_04 Φ (.sub (.list (.cons .none (.cons (.str "ab") (.cons (.int 7) .nil)))) (.bin .mod (.var 1) (.int 3))) (Γ4 l a 7) H Out4 NoE := by
  obtain ⟨j, hj, lj⟩ := fmod_nat a 3 (by decide)
  have : ∀ v, [Val.none, .str "ab", .int 7][j]? = some v → Out4 v (H ++ [.list [.none, .str "ab", .int 7]]) := fun v hv => by
    match j, lj with
    | 0, _ => cases hv; exact ⟨none, ⟨.none, rfl, rfl⟩, fun h => h⟩
    | 1, _ => cases hv; exact ⟨none, ⟨.str, rfl, rfl⟩, fun h => h⟩
    | 2, _ => cases hv; exact ⟨none, ⟨.int, rfl, rfl⟩, fun h => h⟩
  rw [wp_sub]
  refine ⟨by decide, ?_⟩
  show Wp (subV (.loc H.length) (.int (Int.fmod a 3))) _ _ _
  have e : [Val.none, .str "ab", .int 7][j]? = some [Val.none, .str "ab", .int 7][j] := List.getElem?_eq_getElem lj
  rw [show Int.fmod (a : Int) 3 = (j : Int) from hj]
  exact ws_list (get_new H _) (by omega) (by rw [Int.toNat_natCast]; exact e) (this _ e)
/- rows_wrong -/
theorem l04_wrong (I : In4 H l b s a n g) {k : Nat} (hk : k < 8) : Wp (callF T_04 (d + 1) 9 [.loc l, .int (a : Int), .int (k : Int)]) H Out4 NoE := by
  rw [wp_call (g := f9_04) rfl rfl, f9_04]
  show wpSs _ _ _ (Γ4 l a k) H _ _ _
  match k, hk with
  | 0, _ => exact rw_0
  | 1, _ => exact rw_1 (Φ := callF T_04 d) I
  | 2, _ => exact rw_2 (Φ := callF T_04 d) I
  | 3, _ => exact rw_3 (Φ := callF T_04 d) I
  | 4, _ => exact rw_4 (Φ := callF T_04 d) I
  | 5, _ => exact rw_5 (Φ := callF T_04 d) I
  | 6, _ => exact rw_6 (Φ := callF T_04 d) I
  | 7, _ => exact rw_7 (l := l) (Φ := callF T_04 d)
end
end Mine.Pure

-- part L4G
namespace Mine.Pure
open PySem
section
variable {T : Tab} {Φ : Funs} {Γ : Env'} {H : Hp} {Q : Val → Hp → Prop} {E : Nat → Hp → Prop} {d : Nat} {QS : Env' → Hp → Prop} {R : Val → Hp → Prop} {ES : Nat → Env' → Hp → Prop} {l b s a n : Nat} {g : List (List Val)}
/- rows of heights -/
noncomputable def Fine (g : List (List Val)) : Prop := ∀ (i : Nat) w, g[i]? = some w → ∀ x ∈ w, isH x = true
structure Grid (H : Hp) (l b n : Nat) (g : List (List Val)) : Prop where
  grid : GAt H l b 1 g
  ev : Even g n
  rows : 1 ≤ g.length ∧ g.length ≤ 4
  wide : 1 ≤ n ∧ n ≤ 4
  top : l = b + g.length
theorem isH_int {i : Int} (h0 : 0 ≤ i) (h1 : i ≤ 1000000000) : isH (.int i) = true := by
  show (decide (0 ≤ i) && decide (i ≤ 1000000000)) = true
  rw [decide_eq_true h0, decide_eq_true h1]; rfl
/- the rows -/
theorem st_rows (ns : List Int) (n r : Nat) (hn : 1 ≤ n ∧ n ≤ 4) (c0 : Int) (hr : Int.fmod (Int.fdiv c0 4) 4 = r) (lr : r < 4)
    (q : ∀ K g, Grid K (H.length + g.length) H.length n g → Fine g → Q (.loc (H.length + g.length)) K) :
    wpE T_04 (callF T_04 (d + 1)) (.comp (.comp (.bin .mod (.bin .add (.call 4 (.cons (.var 0) (.cons (.int 3) .nil))) (.bin .mul (.int 5) (.var 10))) (.int 1000000001)) (.bf .range (.cons (.var 2) .nil)) .none) (.bf .range (.cons (.bin .add (.int 1) (.bin .mod (.bin .fdiv (.var 1) (.int 4)) (.int 4))) .nil)) .none)
      [some (.script ns), some (.int c0), some (.int (n : Int)), none, none, none, none, none, none] H Q E := by
  refine comp_rows (xs := rngL ((1 + r : Nat) : Int)) (src := none) 0 (fun _ w => w.length = n ∧ ∀ x ∈ w, Plain x ∧ isH x = true) (it_rng (by omega) ?_) (fun _ _ => rfl) (by rw [rngN_len]; show _ < 16777216; omega) ?_ ?_
  · refine ⟨by decide, by decide, ?_⟩
    show Val.int (1 + Int.fmod (Int.fdiv c0 4) 4) = _ ∧ _
    rw [hr]
    exact ⟨rfl, rfl⟩
  · intro k x K _ _
    refine comp_pure (xs := rngL (n : Int)) (src := none) (fun _ v => Plain v ∧ isH v = true) (it_rng (by omega) ⟨rfl, rfl⟩) rfl (by rw [rngN_len]; show _ < 16777216; omega) ?_ ?_
    · intro j y hy
      obtain ⟨rfl, _⟩ := rngN_get hy
      rw [wp_bin, wp_bin, wp_callE]
      show Wp (callF T_04 (d + 1) 4 [.script ns, .int ((3 : Nat) : Int)]) K _ _
      rw [l04_cell]
      have b1 := Int.fmod_nonneg_of_pos (cellAt ns 3 + 5 * (j : Int)) (show (0 : Int) < 1000000001 by decide)
      have b2 := Int.fmod_lt_of_pos (cellAt ns 3 + 5 * (j : Int)) (show (0 : Int) < 1000000001 by decide)
      exact ⟨rfl, by decide, ⟨trivial, isH_int b1 (by omega)⟩, rfl⟩
    · intro ys hl hp
      rw [rngN_len] at hl
      refine ⟨ys, ⟨hl, fun x hx => ?_⟩, rfl, ⟨_, rfl⟩, by rw [List.length_append]; rfl, get_new K _⟩
      obtain ⟨j, hj⟩ := List.mem_iff_getElem?.mp hx
      exact hp j x hj
  · intro g K gl gp e G hK
    rw [rngN_len] at gl
    have z := q K g
    rw [Nat.zero_add, Nat.one_mul] at G ⊢
    exact z ⟨G, ⟨fun i w h => (gp i w h).1, fun i w h x hx => ((gp i w h).2 x hx).1⟩, ⟨by omega, by omega⟩, hn, rfl⟩ fun i w h x hx => ((gp i w h).2 x hx).2
/- the odd height -/
theorem st_odd (ns : List Int) (c0 : Int) (v2 v3 v4 v5 : Val) (q : ∀ K o, Ext H K → Plain o → isH o = false → Q o K) :
    wpE T_04 (callF T_04 (d + 1)) (.sub (.list (.cons (.neg (.int 1)) (.cons (.int 1000000001) (.cons (.bool true) (.cons (.str "1") (.cons (.bin .sub (.neg (.int 1)) (.bf .abs (.cons (.var 1) .nil))) (.cons (.bin .add (.int 1000000001) (.bf .abs (.cons (.var 1) .nil))) .nil))))))) (.bin .mod (.call 4 (.cons (.var 0) (.cons (.int 4) .nil))) (.int 6)))
      [some (.script ns), some (.int c0), some v2, some v3, some v4, some v5, none, none, none] H Q E := by
  obtain ⟨j, hj, lj⟩ := fmod_nat (cellAt ns 4) 6 (by decide)
  rw [wp_sub]
  show wpE T_04 _ (.bin .mod (.call 4 (.cons (.var 0) (.cons (.int 4) .nil))) (.int 6)) _ (H ++ [.list [.int (-1), .int 1000000001, .bool true, .str "1", .int (-1 - (c0.natAbs : Int)), .int (1000000001 + (c0.natAbs : Int))]]) _ _
  rw [wp_bin, wp_callE]
  show Wp (callF T_04 (d + 1) 4 [.script ns, .int ((4 : Nat) : Int)]) _ _ _
  rw [l04_cell]
  refine ⟨by decide, ?_⟩
  show Wp (subV (.loc H.length) (.int (Int.fmod (cellAt ns 4) 6))) _ _ _
  rw [show Int.fmod (cellAt ns 4) 6 = (j : Int) from hj]
  have no : ∀ i : Int, i < 0 ∨ 1000000000 < i → isH (.int i) = false := fun i h => by
    show (decide (0 ≤ i) && decide (i ≤ 1000000000)) = false
    rcases h with h | h
    · rw [decide_eq_false (by omega)]; rfl
    · rw [decide_eq_false (show ¬ i ≤ 1000000000 by omega)]; exact Bool.and_false _
  have all : ∀ o, [Val.int (-1), .int 1000000001, .bool true, .str "1", .int (-1 - (c0.natAbs : Int)), .int (1000000001 + (c0.natAbs : Int))][j]? = some o → Plain o ∧ isH o = false := fun o h => by
    match j, lj with
    | 0, _ => cases h; exact ⟨trivial, rfl⟩
    | 1, _ => cases h; exact ⟨trivial, rfl⟩
    | 2, _ => cases h; exact ⟨trivial, rfl⟩
    | 3, _ => cases h; exact ⟨trivial, rfl⟩
    | 4, _ => cases h; exact ⟨trivial, no _ (.inl (by omega))⟩
    | 5, _ => cases h; exact ⟨trivial, no _ (.inr (by omega))⟩
  have e := List.getElem?_eq_getElem (l := [Val.int (-1), .int 1000000001, .bool true, .str "1", .int (-1 - (c0.natAbs : Int)), .int (1000000001 + (c0.natAbs : Int))]) lj
  exact ws_list (get_new H _) (by omega) (by rw [Int.toNat_natCast]; exact e) (q _ _ ⟨_, rfl⟩ (all _ e).1 (all _ e).2)
/- the wrong number of rows -/
theorem st_wrong (ns : List Int) (v1 v2 v3 v4 v5 v6 v7 : Val) (q : ∀ K o, Plain o → wholeV 1 30 o = false → Q o K) :
    wpE T_04 (callF T_04 (d + 1)) (.sub (.list (.cons (.int 0) (.cons (.int 31) (.cons (.neg (.int 1)) (.cons (.bool true) (.cons (.str "3") (.cons .none .nil))))))) (.bin .mod (.bin .fdiv (.call 4 (.cons (.var 0) (.cons (.int 4) .nil))) (.int 6)) (.int 6)))
      [some (.script ns), some v1, some v2, some v3, some v4, some v5, some v6, some v7, none] H Q E := by
  obtain ⟨j, hj, lj⟩ := fmod_nat (Int.fdiv (cellAt ns 4) 6) 6 (by decide)
  rw [wp_sub]
  show wpE T_04 _ (.bin .mod (.bin .fdiv (.call 4 (.cons (.var 0) (.cons (.int 4) .nil))) (.int 6)) (.int 6)) _ (H ++ [.list [.int 0, .int 31, .int (-1), .bool true, .str "3", .none]]) _ _
  rw [wp_bin, wp_bin, wp_callE]
  show Wp (callF T_04 (d + 1) 4 [.script ns, .int ((4 : Nat) : Int)]) _ _ _
  rw [l04_cell]
  refine ⟨by decide, by decide, ?_⟩
  show Wp (subV (.loc H.length) (.int (Int.fmod (Int.fdiv (cellAt ns 4) 6) 6))) _ _ _
  rw [show Int.fmod (Int.fdiv (cellAt ns 4) 6) 6 = (j : Int) from hj]
  have all : ∀ o, [Val.int 0, .int 31, .int (-1), .bool true, .str "3", .none][j]? = some o → Plain o ∧ wholeV 1 30 o = false := fun o h => by
    match j, lj with
    | 0, _ => cases h; exact ⟨trivial, rfl⟩
    | 1, _ => cases h; exact ⟨trivial, rfl⟩
    | 2, _ => cases h; exact ⟨trivial, rfl⟩
    | 3, _ => cases h; exact ⟨trivial, rfl⟩
    | 4, _ => cases h; exact ⟨trivial, rfl⟩
    | 5, _ => cases h; exact ⟨trivial, rfl⟩
  have e := List.getElem?_eq_getElem (l := [Val.int 0, .int 31, .int (-1), .bool true, .str "3", .none]) lj
  exact ws_list (get_new H _) (by omega) (by rw [Int.toNat_natCast]; exact e) (q _ _ (all _ e).1 (all _ e).2)
/- kind 8 -/
theorem st_8 (G : Grid H l b n g) (hf : Fine g) (q : ∀ K v s, Rd K v s → Shape s → Heights s → Q v K) (h3 : Γ[3]? = some (some (.loc l))) :
    wpE T_04 Φ (.comp (.bf .list (.cons (.sub (.var 3) (.int 0)) .nil)) (.bf .range (.cons (.int 30) .nil)) .none) Γ H Q E := by
  have hr := G.rows
  have hn := G.wide
  obtain ⟨w, i0⟩ : ∃ w, g[0]? = some w := ⟨_, List.getElem?_eq_getElem (by omega)⟩
  refine comp_rows (xs := rngL ((30 : Nat) : Int)) (src := none) 0 (fun _ r => r = w) (it_rng (by omega) ⟨rfl, rfl⟩) (fun _ _ => rfl) (by rw [rngN_len]; decide) ?_ ?_
  · intro k x K _ e
    rw [wp_bf, wp_cons, wp_sub, wp_var, getV_get, List.getElem?_append_left (List.getElem?_eq_some_iff.mp h3).1, h3]
    show Wp (subV (.loc l) (.int 0)) K _ _
    refine ws_list (e.get G.grid.top) (Int.le_refl 0) (G.grid.item (by omega)) ?_
    exact wv_listOf (e.get (G.grid.row 0 _ i0)) ⟨_, rfl, rfl, ⟨_, rfl⟩, by rw [List.length_append]; rfl, get_new K _⟩
  · intro g' K gl gp e G' hK
    rw [rngN_len] at gl
    have ev : Even g' n := ⟨fun i r h => by rw [gp i r h]; exact G.ev.len 0 _ i0, fun i r h => by rw [gp i r h]; exact G.ev.pl 0 _ i0⟩
    exact q _ _ (some (g'.map some)) ⟨_, _, rfl, G'.rdl ev.pl⟩ (ev.shape (by rw [gl]; unfold lenOk; decide) (by unfold lenOk; omega)) (heights_of fun i r h => by rw [gp i r h]; exact hf 0 _ i0)
/- kind 9 -/
theorem st_9 (G : Grid H l b n g) (q : ∀ K v s, Rd K v s → Shape s → Heights s → Q v K) (h3 : getV Γ 3 = fun k => k (.loc l)) :
    wpE T_04 Φ (.comp (.bin .add (.bin .mul (.list (.cons (.int 0) .nil)) (.int 29)) (.list (.cons .none .nil))) (.var 3) .none) Γ H Q E := by
  have hr := G.rows
  refine comp_rows (xs := (List.range g.length).map fun i => Val.loc (b + 1 * i)) (src := some l) 3 (fun _ r => r = List.replicate 29 (.int 0) ++ [.none]) (by rw [wp_var, h3]; exact ⟨rfl, iter_list G.grid.top⟩) (fun K e => chk_list (e.get G.grid.top)) (by rw [len_xs]; show _ < 16777216; omega) ?_ ?_
  · intro k x K hx e
    show wpBin .mul (.loc K.length) (.int ((29 : Nat) : Int)) (K ++ [.list [.int 0]]) _ _
    refine wb_mul (get_new _ _) (by decide) ?_
    show wpBin .add (.loc (K ++ [HObj.list [Val.int 0]]).length) (.loc (K ++ [HObj.list [Val.int 0]] ++ [HObj.list (List.replicate 29 (Val.int 0))]).length) _ _ _
    refine wb_add (Ext.get ⟨_, rfl⟩ (get_new _ _)) (get_new _ _) (by rw [List.length_replicate]; decide) ?_
    refine ⟨_, rfl, ?_, Ext.trans ⟨_, rfl⟩ (Ext.trans ⟨_, rfl⟩ (Ext.trans ⟨_, rfl⟩ ⟨_, rfl⟩)), ?_, ?_⟩
    · rw [List.length_append, List.length_append, List.length_append]; rfl
    · rw [List.length_append, List.length_append, List.length_append, List.length_append]; rfl
    · have := get_new (K ++ [HObj.list [Val.int 0]] ++ [HObj.list (List.replicate 29 (Val.int 0))] ++ [HObj.list [Val.none]]) (HObj.list (List.replicate 29 (Val.int 0) ++ [.none]))
      rw [List.length_append, List.length_append, List.length_append] at this
      exact this
  · intro g' K gl gp e G' hK
    rw [len_xs] at gl
    have mem : ∀ x ∈ List.replicate 29 (Val.int 0) ++ [.none], Plain x ∧ isH x = true := fun x hx => by
      rcases List.mem_append.mp hx with h | h
      · rw [List.eq_of_mem_replicate h]; exact ⟨trivial, rfl⟩
      · cases List.mem_singleton.mp h; exact ⟨trivial, rfl⟩
    have ev : Even g' 30 := ⟨fun i r h => by rw [gp i r h]; rfl, fun i r h x hx => by rw [gp i r h] at hx; exact (mem x hx).1⟩
    exact q _ _ (some (g'.map some)) ⟨_, _, rfl, G'.rdl ev.pl⟩ (ev.shape (by rw [gl]; unfold lenOk; omega) (by unfold lenOk; decide)) (heights_of fun i r h x hx => by rw [gp i r h] at hx; exact (mem x hx).2)
end
end Mine.Pure

-- part L4H
namespace Mine.Pure
open PySem
section
variable {T : Tab} {Φ : Funs} {Γ : Env'} {H : Hp} {Q : Val → Hp → Prop} {E : Nat → Hp → Prop} {d : Nat} {QS : Env' → Hp → Prop} {R : Val → Hp → Prop} {ES : Nat → Env' → Hp → Prop} {l b s a n k : Nat} {g : List (List Val)} {ns : List Int} {c0 : Int} {o : Val}
theorem wa_setitem {i : Nat} {xs : List Val} {k : Nat} {v : Val} {Q : Unit → Hp → Prop} (h : H[i]? = some (.list xs)) (hk : k < xs.length) (q : Q () (H.set i (.list (xs.set k v)))) : Wp (setitemV (.loc i) (.int (k : Int)) v) H Q E := by
  refine Wp.of_eq ?_ q
  unfold setitemV
  simp only [h]
  rw [if_pos ⟨by omega, by omega⟩, Int.toNat_natCast]
theorem Grid.put (G : Grid H l b n g) (ha : a < g.length) {w : List Val} (lw : w.length = n) (pw : ∀ x ∈ w, Plain x) : Grid (H.set (b + 1 * a) (.list w)) l b n (g.set a w) := by
  refine ⟨G.grid.put (Nat.le_refl 1) (by rw [G.top]; omega) ha w, ⟨fun i r hr => ?_, plain_set G.ev.pl pw⟩, by rw [List.length_set]; exact G.rows, G.wide, by rw [List.length_set]; exact G.top⟩
  rw [List.getElem?_set] at hr
  split at hr
  · cases hr; exact lw
  · exact G.ev.len i r hr
noncomputable abbrev Γ5 (ns : List Int) (c0 : Int) (n : Nat) (v : Val) (a k : Nat) (o : Val) (w : Str) : Env' := [some (.script ns), some (.int c0), some (.int (n : Int)), some v, some (.int (a : Int)), some (.int (k : Int)), some o, some (.str w), none]
/- the odd height is put in -/
theorem st_C (G : Grid H l b n g) (hf : Fine g) (ha : a < g.length) (po : Plain o) (ho : isH o = false)
    (q : ∀ K g' (w : Str), Grid K l b n g' → g'.length = g.length → (k ≤ 10 → 4 ≤ k → w = "" ∧ Fine g') → (10 < k → w = "height" ∧ ¬ Fine g') → QS (Γ5 ns c0 n (.loc l) a k o w) K) :
    wpS T_04 (callF T_04 (d + 1)) (.ite (.or (.cmp .gt (.var 5) (.int 10)) (.and (.cmp .lt (.var 5) (.int 4)) (.cmp .eq (.bin .mod (.var 1) (.int 3)) (.int 0)))) (.cons (.setitem (.sub (.var 3) (.var 4)) (.bin .mod (.call 4 (.cons (.var 0) (.cons (.int 5) .nil))) (.var 2)) (.var 6)) (.cons (.assign 7 (.str "height")) .nil)) .nil) (Γ5 ns c0 n (.loc l) a k o "") H QS R ES := by
  have c1 : wpE T_04 (callF T_04 (d + 1)) (.or (.cmp .gt (.var 5) (.int 10)) (.and (.cmp .lt (.var 5) (.int 4)) (.cmp .eq (.bin .mod (.var 1) (.int 3)) (.int 0)))) (Γ5 ns c0 n (.loc l) a k o "") H (fun v K => (∃ B, v = .bool B ∧ (B = true → 10 < k ∨ k < 4) ∧ (B = false → k ≤ 10)) ∧ K = H) NoE := by
    show brB (decide ((k : Int) > 10)) _ _
    refine brB_split (fun h => ⟨⟨true, rfl, fun _ => .inl (by omega), fun h => (by cases h)⟩, rfl⟩) fun h => ?_
    show brB (decide ((k : Int) < 4)) _ _
    refine brB_split (fun h' => ?_) fun h' => ⟨⟨false, rfl, fun h => (by cases h), fun _ => by omega⟩, rfl⟩
    exact ⟨by decide, ⟨_, rfl, fun _ => .inr (by omega), fun _ => by omega⟩, rfl⟩
  rw [wps_ite]
  refine wpE_then c1 ?_
  clear c1
  rintro _ J ⟨⟨B, rfl, hB, hB'⟩, rfl⟩
  rw [asBool_bool]
  refine brB_cases (fun e => ?_) fun e => q J g "" G rfl (fun _ _ => ⟨rfl, hf⟩) fun h => absurd (hB' e) (by omega)
  obtain ⟨ra, ga⟩ : ∃ w, g[a]? = some w := ⟨_, List.getElem?_eq_getElem ha⟩
  have lra := G.ev.len a _ ga
  have hn := G.wide
  obtain ⟨j, hj, lj⟩ := fmod_nat (cellAt ns 5) n (by omega)
  rw [wps_cons, wps_setitem]
  show Wp (subV (.loc l) (.int (a : Int))) J _ _
  refine ws_list G.grid.top (by omega) (by rw [Int.toNat_natCast]; exact G.grid.item ha) ?_
  rw [wp_bin, wp_callE]
  show Wp (callF T_04 (d + 1) 4 [.script ns, .int ((5 : Nat) : Int)]) _ _ _
  rw [l04_cell]
  refine ⟨by omega, ?_⟩
  show Wp (setitemV (.loc (b + 1 * a)) (.int (Int.fmod (cellAt ns 5) (n : Int))) o) J _ _
  rw [hj]
  refine wa_setitem (G.grid.row a _ ga) (by omega) ?_
  refine q _ _ "height" (G.put ha (w := ra.set j o) (by rw [List.length_set]; exact lra) fun x hx => ?_) List.length_set (fun h1 h2 => by rcases hB e with h | h <;> omega) fun _ => ⟨rfl, fun F => ?_⟩
  · rcases List.mem_or_eq_of_mem_set hx with h | h
    · exact G.ev.pl a _ ga x h
    · rw [h]; exact po
  · have := F a (ra.set j o) (by rw [List.getElem?_set_self ha]) o (List.mem_of_getElem? (by rw [List.getElem?_set_self (show j < ra.length by omega)]))
    rw [ho] at this; cases this
/- the rows are made wrong -/
theorem st_D {w : Str} {ss : MSs} (G : Grid H l b n g) (ha : a < g.length) (h1 : k ≤ 10 → 4 ≤ k → w = "" ∧ Fine g) (h2 : 10 < k → w = "height" ∧ ¬ Fine g)
    (q : ∀ K v s w, Rd K v s → Due s w → wpSs T_04 (callF T_04 (d + 1)) ss (Γ5 ns c0 n v a k o w) K QS R ES) :
    wpSs T_04 (callF T_04 (d + 1)) (.cons (.ite (.cmp .lt (.var 5) (.int 8)) (.cons (.assign 3 (.call 9 (.cons (.var 3) (.cons (.var 4) (.cons (.var 5) .nil))))) (.cons (.assign 7 (.str "land")) .nil)) .nil) (.cons (.ite (.cmp .eq (.var 5) (.int 8)) (.cons (.assign 3 (.comp (.bf .list (.cons (.sub (.var 3) (.int 0)) .nil)) (.bf .range (.cons (.int 30) .nil)) .none)) .nil) .nil) (.cons (.ite (.cmp .eq (.var 5) (.int 9)) (.cons (.assign 3 (.comp (.bin .add (.bin .mul (.list (.cons (.int 0) .nil)) (.int 29)) (.list (.cons .none .nil))) (.var 3) .none)) .nil) .nil) ss))) (Γ5 ns c0 n (.loc l) a k o w) H QS R ES := by
  have hr := G.rows
  have hn := G.wide
  by_cases c1 : k < 8
  · rw [wps_cons, wps_ite]
    show brB (decide ((k : Int) < 8)) _ _
    rw [brB_pos (by omega), wps_cons, wps_assign, wp_callE]
    show Wp (callF T_04 (d + 1) 9 [.loc l, .int (a : Int), .int (k : Int)]) H _ _
    refine Wp.then (l04_wrong ⟨G.grid, G.ev, hr, hn, ha, Nat.le_refl 1, by rw [G.top]; omega⟩ c1) ?_
    rintro v K ⟨s, rd, S⟩
    show wpSs _ _ _ (Γ5 ns c0 n v a k o "land") K _ _ _
    rw [wps_nil, wps_cons, wps_ite]
    show brB (decide ((k : Int) = 8)) _ _
    rw [brB_neg (by omega), wps_nil, wps_cons, wps_ite]
    show brB (decide ((k : Int) = 9)) _ _
    rw [brB_neg (by omega)]
    exact q K v s _ rd (.land S)
  rw [wps_cons, wps_ite]
  show brB (decide ((k : Int) < 8)) _ _
  rw [brB_neg (by omega), wps_nil, wps_cons, wps_ite]
  show brB (decide ((k : Int) = 8)) _ _
  by_cases c2 : k = 8
  · obtain ⟨rfl, hf⟩ := h1 (by omega) (by omega)
    rw [brB_pos (by omega), wps_cons, wps_assign]
    refine st_8 G hf (fun K v s rd S hh => ?_) rfl
    show wpSs _ _ _ (Γ5 ns c0 n v a k o "") K _ _ _
    rw [wps_nil, wps_cons, wps_ite]
    show brB (decide ((k : Int) = 9)) _ _
    rw [brB_neg (by omega)]
    exact q K v s _ rd (.fine S hh)
  rw [brB_neg (by omega), wps_nil, wps_cons, wps_ite]
  show brB (decide ((k : Int) = 9)) _ _
  by_cases c3 : k = 9
  · obtain ⟨rfl, hf⟩ := h1 (by omega) (by omega)
    rw [brB_pos (by omega), wps_cons, wps_assign]
    refine st_9 G (fun K v s rd S hh => ?_) rfl
    exact q K v s _ rd (.fine S hh)
  rw [brB_neg (by omega), wps_nil]
  have S := G.ev.shape (by unfold lenOk; omega) (by unfold lenOk; omega)
  refine q H (.loc l) (some (g.map some)) w ⟨_, _, rfl, G.grid.rdl G.ev.pl⟩ ?_
  by_cases c4 : k ≤ 10
  · obtain ⟨rfl, hf⟩ := h1 c4 (by omega)
    exact .fine S (heights_of hf)
  · obtain ⟨rfl, hf⟩ := h2 (by omega)
    refine .height S fun hh => hf fun i r hr => hh i r (by rw [List.getElem?_map, hr]; rfl)
theorem Due.uniq {s : Option Rows} {w w' : Str} (x : Due s w) (y : Due s w') : w = w' := by
  cases x with
  | fine a b =>
    cases y with
    | fine => rfl
    | land c => exact (c a).elim
    | height _ c => exact (c b).elim
  | land a =>
    cases y with
    | fine c => exact (a c).elim
    | land => rfl
    | height c => exact (a c).elim
  | height a b =>
    cases y with
    | fine _ c => exact (b c).elim
    | land c => exact (c a).elim
    | height => rfl
theorem ne_same {s : Option Rows} {w : Str} (x : Due s w) : cmpV .ne (.str w) (.str w) H = some false := by
  cases x with
  | fine => kernel_rfl
  | land => kernel_rfl
  | height => kernel_rfl
/- the words agree -/
theorem st_E {v : Val} {s : Option Rows} {w : Str} {ss : MSs} (rd : Rd H v s) (du : Due s w) (q : ∀ K, wpSs T_04 (callF T_04 (d + 4)) ss (Γ5 ns c0 n v a k o w) K QS R ES) :
    wpSs T_04 (callF T_04 (d + 4)) (.cons (.ite (.or (.cmp .ne (.call 6 (.cons (.var 3) .nil)) (.var 7)) (.and (.cmp .ne (.var 7) (.str "")) (.not (.call 8 (.cons (.var 3) .nil))))) (.cons (.ret (.some (.bool false))) .nil) .nil) ss) (Γ5 ns c0 n v a k o w) H QS R ES := by
  refine wps_no (fun _ => True) ?_ fun K _ => q K
  clear q
  rw [wp_or, wp_cmp, wp_callE]
  show Wp (callF T_04 (d + 4) 6 [v]) H _ _
  refine Wp.then (l04_word rd) ?_
  rintro _ K ⟨e, w', rfl, du'⟩
  obtain rfl := du.uniq du'
  show getO (cmpV .ne (.str w) (.str w) K) _
  rw [ne_same du]
  show wpE T_04 _ (.and (.cmp .ne (.var 7) (.str "")) (.not (.call 8 (.cons (.var 3) .nil)))) (Γ5 ns c0 n v a k o w) K _ _
  rw [wp_and]
  show getO (cmpV .ne (.str w) (.str "") K) _
  have ref : ¬ (Shape s ∧ Heights s) → wpE T_04 (callF T_04 (d + 4)) (.not (.call 8 (.cons (.var 3) .nil))) (Γ5 ns c0 n v a k o w) K (fun v H => v = .bool false ∧ True) NoE := fun no => by
    rw [wp_not, wp_callE]
    show Wp (callF T_04 (d + 4) 8 [v]) K _ _
    refine Wp.then (l04_refused (rd.ext e) no) ?_
    rintro _ _ ⟨_, rfl⟩
    exact ⟨rfl, trivial⟩
  cases du with
  | fine a b =>
    rw [show cmpV .ne (.str "") (.str "") K = some false by kernel_rfl]
    exact ⟨rfl, trivial⟩
  | land a =>
    rw [show cmpV .ne (.str "land") (.str "") K = some true by kernel_rfl]
    exact ref fun h => a h.1
  | height a b =>
    rw [show cmpV .ne (.str "height") (.str "") K = some true by kernel_rfl]
    exact ref fun h => b h.2
end
end Mine.Pure

-- part L4I
namespace Mine.Pure
open PySem
theorem law_04w (ns : List Int) : Wp (callF T_04 20 10 [.script ns]) [] (fun v _ => v = .bool true) NoE := by
  obtain ⟨m, hm, lm⟩ := fmod_nat (cellAt ns 0) 4 (by decide)
  obtain ⟨r, hr, lr⟩ := fmod_nat (Int.fdiv (cellAt ns 0) 4) 4 (by decide)
  obtain ⟨k, hk, lk⟩ := fmod_nat (cellAt ns 2) 16 (by decide)
  have hm : Int.fmod (cellAt ns 0) 4 = (m : Int) := hm
  rw [wp_call (d := 19) (g := f10_04) rfl rfl, f10_04]
  rw [wps_cons, wps_assign, wp_callE]
  show Wp (callF T_04 19 4 [.script ns, .int ((0 : Nat) : Int)]) [] _ _
  rw [l04_cell, wps_cons, wps_assign]
  refine ⟨by decide, ?_⟩
  show wpSs T_04 _ _ [some (.script ns), some (.int (cellAt ns 0)), some (.int (1 + Int.fmod (cellAt ns 0) 4)), none, none, none, none, none, none] [] _ _ _
  rw [show 1 + Int.fmod (cellAt ns 0) 4 = ((1 + m : Nat) : Int) by rw [hm]; omega, wps_cons, wps_assign]
  refine st_rows (d := 18) ns (1 + m) r (by omega) (cellAt ns 0) hr lr fun K g G hf => ?_
  have hg := G.rows
  obtain ⟨a, ha, la⟩ := fmod_nat (cellAt ns 1) g.length (by omega)
  rw [wps_cons, wps_assign, wp_bin, wp_callE]
  show Wp (callF T_04 19 4 [.script ns, .int ((1 : Nat) : Int)]) K _ _
  rw [l04_cell]
  show Wp (bfV .len [.loc _]) K _ _
  rw [wv_len_loc G.grid.top, len_xs]
  refine ⟨by omega, ?_⟩
  rw [ha]
  show wpSs T_04 _ _ _ K _ _ _
  rw [wps_cons, wps_assign, wp_bin, wp_callE]
  show Wp (callF T_04 19 4 [.script ns, .int ((2 : Nat) : Int)]) K _ _
  rw [l04_cell]
  refine ⟨by decide, ?_⟩
  rw [show Int.fmod (cellAt ns 2) 16 = (k : Int) from hk]
  show wpSs T_04 _ _ _ K _ _ _
  rw [wps_cons, wps_assign]
  refine st_odd (d := 18) ns (cellAt ns 0) _ _ _ _ fun K1 o e1 po ho => ?_
  rw [wps_cons, wps_assign, wp_str, wps_cons]
  have G1 : Grid K1 _ _ _ g := ⟨G.grid.ext e1, G.ev, G.rows, G.wide, G.top⟩
  refine st_C (d := 18) (ns := ns) (c0 := cellAt ns 0) G1 hf la po ho fun K2 g2 w G2 lg h1 h2 => ?_
  refine st_D (d := 18) G2 (by omega) h1 h2 fun K3 v s w rd du => ?_
  refine st_E (d := 15) rd du fun K4 => ?_
  have wm : wholeV 1 30 (.int ((1 + m : Nat) : Int)) = true := by
    show (decide ((1 : Int) ≤ ((1 + m : Nat) : Int)) && decide (((1 + m : Nat) : Int) ≤ 30)) = true
    rw [decide_eq_true (by omega), decide_eq_true (by omega)]; rfl
  refine wps_no (fun _ => True) ?_ fun K5 _ => ?_
  · rw [wp_or, wp_cmp, wp_callE]
    show Wp (callF T_04 19 7 [.int ((1 + m : Nat) : Int), .int ((1 + m : Nat) : Int), o]) K4 _ _
    refine Wp.then (l04_flatw (d := 14) trivial trivial po) ?_
    rintro _ J rfl
    rw [show flatDue (.int ((1 + m : Nat) : Int)) (.int ((1 + m : Nat) : Int)) o = "height" by unfold flatDue; rw [wm, ho]; rfl]
    show getO (cmpV .ne (.str "height") (.str "height") J) _
    rw [show cmpV .ne (.str "height") (.str "height") J = some false by kernel_rfl]
    rw [getO_some, asBool_bool, brB_false, wp_cmp, wp_callE]
    show Wp (callF T_04 19 7 [.int 30, .int ((1 + m : Nat) : Int), .none]) J _ _
    refine Wp.then (l04_flatw (d := 14) trivial trivial trivial) ?_
    rintro _ J rfl
    rw [show flatDue (.int 30) (.int ((1 + m : Nat) : Int)) .none = "" by unfold flatDue; rw [wm]; rfl]
    show getO (cmpV .ne (.str "") (.str "") J) _
    rw [show cmpV .ne (.str "") (.str "") J = some false by kernel_rfl]
    exact ⟨rfl, trivial⟩
  rw [wps_cons, wps_assign]
  refine st_wrong (d := 18) ns _ _ _ _ _ _ _ fun K6 x px hx => ?_
  rw [wps_cons, wps_ret, wp_oSome, wp_and, wp_cmp, wp_callE]
  show Wp (callF T_04 19 7 [x, .int ((1 + m : Nat) : Int), o]) K6 _ _
  refine Wp.then (l04_flatw (d := 14) px trivial po) ?_
  rintro _ J rfl
  rw [show flatDue x (.int ((1 + m : Nat) : Int)) o = "land" by unfold flatDue; rw [hx]; rfl]
  show getO (cmpV .eq (.str "land") (.str "land") J) _
  rw [show cmpV .eq (.str "land") (.str "land") J = some true by kernel_rfl]
  rw [getO_some, asBool_bool, brB_true, wp_cmp, wp_callE]
  show Wp (callF T_04 19 7 [.int ((1 + m : Nat) : Int), x, .int 5]) J _ _
  refine Wp.then (l04_flatw (d := 14) trivial px trivial) ?_
  rintro _ J rfl
  rw [show flatDue (.int ((1 + m : Nat) : Int)) x (.int 5) = "land" by unfold flatDue; rw [wm, hx]; rfl]
  show getO (cmpV .eq (.str "land") (.str "land") J) _
  rw [show cmpV .eq (.str "land") (.str "land") J = some true by kernel_rfl]
  rfl
theorem law_04 (ns : List Int) (_ : ns.length ≤ 63) : ∃ H', callF T_04 20 10 [.script ns] [] = .ok (.bool true) H' := by
  obtain ⟨v, H', e, rfl⟩ := (law_04w ns).get
  exact ⟨H', e⟩
end Mine.Pure

-- part END
namespace Mine
open PySem PySem.W PySem.Calls
noncomputable def headAll (t : Addr → Option Obj) (N : Names) (T : Tab) (cls : List Value) (attrs : List Str) (fns : List Addr) (nss : List (List Str)) : Bool :=
  headOk t N T cls fns nss && clssAt t N T attrs fns 0 cls && attrsOk N attrs && excsOk t T cls && (t sysModules).isSome
noncomputable def fns_04 : List Addr := [28, 134, 141, 217, 224, 231, 238, 245, 252, 257, 262, 153]
noncomputable def q_04 : Program := view PySem.Challenge.pw_uf020016_04 [PySem.Challenge.pw_uf020016_04.main.body.length - 1]
noncomputable def loose_04 : List Str := (PySem.Challenge.pw_uf020016_04.main.scope.names.map (·.1)).filter (· != "law")
set_option maxRecDepth 100000
set_option maxHeartbeats 0
theorem left_04 : LeftO PySem.Challenge.pw_uf020016_04 q_04 loose_04 (fun s => recOk [] s) (fun s => headAll s.heap.get? N_04 T_04 [.ref 52, .ref 65, .ref 77, .ref 89, .ref 101, .ref 113, .ref 125, .ref 208, .type "ValueError"] ["rows", "columns", "grid", "sinks"] fns_04 V_04) (fun _ => true) 9000 true := by
  refine left_of (M := 8000) (by kernel_rfl) (by kernel_rfl) (fun s => by kernel_rfl) (by kernel_rfl) ?_
  intro w os
  rw [PySem.W.Fast.te4187177175401517315]
  kernel_rfl
theorem said_04 : PySem.Challenge.rw_uf020016_04.wellSaid = true := by
  rw [PySem.W.Fast.te9446332074065402090]
  kernel_rfl
noncomputable def def_04 : DefRec × List (Str × Expr) := (defOf q_04 "law").get (by kernel_rfl)
theorem hdef_04 : defOf q_04 "law" = some (def_04.1, def_04.2) := by kernel_rfl
theorem hp_04 : PySem.Challenge.pw_uf020016_04.theDef "law" = some (def_04.1.params, def_04.1.body, def_04.1.scope) := by kernel_rfl
theorem hk_04 : kwWritten? def_04.1.params.kwonlyargs def_04.1.params.kw_defaults = some def_04.2 := by kernel_rfl
end Mine
open PySem PySem.W PySem.W.X PySem.W.ZRun PyProof.Rows
set_option maxRecDepth 100000 in
set_option maxHeartbeats 0 in
theorem PySem.Challenge.cw_uf020016_04_holds : PySem.Challenge.rw_uf020016_04.Holds := by
  refine holds_law Mine.said_04 fun said => ?_
  refine holds_openX (q := Mine.q_04) (loose := Mine.loose_04) (Xt := fun s => recOk [] s) (XP := fun _ _ => True) (N := 9000) Mine.left_04 (fun _ _ => trivial) (fun _ _ _ h _ => h) Mine.hdef_04 Mine.hp_04 Mine.hk_04 (fun s e => recFacts_of e) rfl said (by decide +kernel) ⟨rfl, rfl, rfl, rfl, rfl, by decide +kernel⟩ ?hw ?hc
  case hw => exact ⟨[.list []], by decide +kernel, by decide +kernel⟩
  intro w s₀ s₁ mg mb G y fa o pm cd doc dV kV ho hd hcd hD hmg hg args vals as L hpre hlay hrd hwl hlo
  refine Ground.open G ?_
  intro T B D TE TW
  wrow_args hpre hlay hrd hwl hlo
  have y' : Mine.headAll s₀.heap.get? Mine.N_04 Mine.T_04 [.ref 52, .ref 65, .ref 77, .ref 89, .ref 101, .ref 113, .ref 125, .ref 208, .type "ValueError"] ["rows", "columns", "grid", "sinks"] Mine.fns_04 Mine.V_04 = true := y
  unfold Mine.headAll at y'
  simp only [Bool.and_eq_true] at y'
  obtain ⟨⟨⟨⟨y1, y2⟩, y3⟩, yx⟩, y4⟩ := y'
  refine Mine.finish (t := s₀.heap.get?) (N := Mine.N_04) (T := Mine.T_04) (cls := [.ref 52, .ref 65, .ref 77, .ref 89, .ref 101, .ref 113, .ref 125, .ref 208, .type "ValueError"]) (attrs := ["rows", "columns", "grid", "sinks"]) (fns := Mine.fns_04) (nss := Mine.V_04) (k := 10) (d := 20) L.keeps T.g T.b T.builtins T.nolimit y1 y2 y3 yx y4 (script_obj L (by assumption)) (by assumption) (by omega) hmg rfl ⟨rfl, by decide, by decide⟩ (Mine.Pure.law_04 _ (by omega)) ?_
  intro s' hk ho' hg'
  exact ⟨.inl ⟨_, .bool true, [], rfl, raisesW_false (by wrow_none_raised), .bool true, by wrow_post, fun _ => ⟨List.nodup_nil, fun a ha => by cases ha⟩⟩, .of_keep hk, ho', .of_eq (hg'.trans hg)⟩
